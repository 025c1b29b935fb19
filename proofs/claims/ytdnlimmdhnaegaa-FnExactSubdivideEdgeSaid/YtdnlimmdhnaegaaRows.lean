/-
  No cell of these rows narrows 'for every input' (looked for: loops, veiled, ifaces, maps, wideKeys, modest, calm, conditions, laid).
  DERIVED. THE GIVEN ROWS OF THIS SEAT. 12 by the template 'for every input the law returns true; each argument reads behind the call as it read before'; 0 by the template 'total and deterministic' (their statements: YtdnlimmdhnaegaaTotals.lean).
  GIVEN WITH THE SEED: the statements are not yours to turn. If you find one false, say at which input.
  Laid BY PROGRAM, IN A SANDBOX (cutbox-rows.mjs): the forced cells as the released guide's own fill.sh prints them over the translation 5616ae15880e35ed… (all of the seat's roots in one cut). By AI agents, Wed Nov 11 2026. No macro, syntax, notation, axiom, sorry.
-/
import Derived.Test.YtdnlimmdhnaegaaChecked
import GoSem.Claim
import GoSem.ClaimJoined
import GoSem.ClaimMapViews
import Derived.JoinedTies
import Derived.KernelRfl
namespace Go.Proofs.Ytdnlimmdhnaegaa
/- THE CELL 'sum', in the pinned program and in every row, IS THE sha256 OF THE DUMP (.gsa) THAT YtdnlimmdhnaegaaProg.lean LOADS. Nothing in Lean hashes anything: it is a label: what it is worth is what the hold of that sum in a sandbox is worth. -/
noncomputable def Try.pinned : Pinned := { name := "ytdnlimmdhnaegaa", sum := "5616ae15880e35edc7dcacbf0d439e5f6a04d75a0cddf465a84cebd63c57da02", checked := Try.checked }
namespace Rows
def none {H : Type} : Left H := { results := [], args := [] }

/-- 'laws.FnExactDegreeOfChips': WHATEVER THE INPUT: true; the input reads as it did. -/
def fnExactDegreeOfChipsSpec : ChangeSpec := { name := "fnExactDegreeOfChips", fn := fun _ => fun
  | [d1, d2] => { results := [.lit (.bool true)], args := [d1, d2] }
  | _ => none }
def fnExactDegreeOfChipsRow : OpenClaim := { program := "ytdnlimmdhnaegaa", sum := "5616ae15880e35edc7dcacbf0d439e5f6a04d75a0cddf465a84cebd63c57da02", func := "loop.example/g01298/laws.FnExactDegreeOfChips", spec := "fnExactDegreeOfChips", unfollowed := true, recurses := true, apart := false }
def FnExactDegreeOfChipsSaid : Prop := fnExactDegreeOfChipsRow.holds Try.pinned (OpenSpec.ofChange fnExactDegreeOfChipsSpec)

/-- ITS FALSE NEIGHBOUR: 'it returns false'. Refute it at one input. -/
def fnExactDegreeOfChipsWrong : ChangeSpec := { name := "fnExactDegreeOfChips", fn := fun _ => fun
  | [d1, d2] => { results := [.lit (.bool false)], args := [d1, d2] }
  | _ => none }
def FnExactDegreeOfChipsWrongFalsely : Prop := fnExactDegreeOfChipsRow.holds Try.pinned (OpenSpec.ofChange fnExactDegreeOfChipsWrong)

/-- 'laws.FnExactIsDesk': WHATEVER THE INPUT: true; the input reads as it did. -/
def fnExactIsDeskSpec : ChangeSpec := { name := "fnExactIsDesk", fn := fun _ => fun
  | [d] => { results := [.lit (.bool true)], args := [d] }
  | _ => none }
def fnExactIsDeskRow : OpenClaim := { program := "ytdnlimmdhnaegaa", sum := "5616ae15880e35edc7dcacbf0d439e5f6a04d75a0cddf465a84cebd63c57da02", func := "loop.example/g01298/laws.FnExactIsDesk", spec := "fnExactIsDesk", unfollowed := true, recurses := true, apart := false }
def FnExactIsDeskSaid : Prop := fnExactIsDeskRow.holds Try.pinned (OpenSpec.ofChange fnExactIsDeskSpec)

/-- ITS FALSE NEIGHBOUR: 'it returns false'. Refute it at one input. -/
def fnExactIsDeskWrong : ChangeSpec := { name := "fnExactIsDesk", fn := fun _ => fun
  | [d] => { results := [.lit (.bool false)], args := [d] }
  | _ => none }
def FnExactIsDeskWrongFalsely : Prop := fnExactIsDeskRow.holds Try.pinned (OpenSpec.ofChange fnExactIsDeskWrong)

/-- 'laws.FnExactEdgeRows': WHATEVER THE INPUT: true; the input reads as it did. -/
def fnExactEdgeRowsSpec : ChangeSpec := { name := "fnExactEdgeRows", fn := fun _ => fun
  | [d] => { results := [.lit (.bool true)], args := [d] }
  | _ => none }
def fnExactEdgeRowsRow : OpenClaim := { program := "ytdnlimmdhnaegaa", sum := "5616ae15880e35edc7dcacbf0d439e5f6a04d75a0cddf465a84cebd63c57da02", func := "loop.example/g01298/laws.FnExactEdgeRows", spec := "fnExactEdgeRows", apart := false }
def FnExactEdgeRowsSaid : Prop := fnExactEdgeRowsRow.holds Try.pinned (OpenSpec.ofChange fnExactEdgeRowsSpec)

/-- ITS FALSE NEIGHBOUR: 'it returns false'. Refute it at one input. -/
def fnExactEdgeRowsWrong : ChangeSpec := { name := "fnExactEdgeRows", fn := fun _ => fun
  | [d] => { results := [.lit (.bool false)], args := [d] }
  | _ => none }
def FnExactEdgeRowsWrongFalsely : Prop := fnExactEdgeRowsRow.holds Try.pinned (OpenSpec.ofChange fnExactEdgeRowsWrong)

/-- 'laws.FnExactFollowersOf': WHATEVER THE INPUT: true; the input reads as it did. -/
def fnExactFollowersOfSpec : ChangeSpec := { name := "fnExactFollowersOf", fn := fun _ => fun
  | [d1, d2] => { results := [.lit (.bool true)], args := [d1, d2] }
  | _ => none }
def fnExactFollowersOfRow : OpenClaim := { program := "ytdnlimmdhnaegaa", sum := "5616ae15880e35edc7dcacbf0d439e5f6a04d75a0cddf465a84cebd63c57da02", func := "loop.example/g01298/laws.FnExactFollowersOf", spec := "fnExactFollowersOf", unfollowed := true, recurses := true, apart := false }
def FnExactFollowersOfSaid : Prop := fnExactFollowersOfRow.holds Try.pinned (OpenSpec.ofChange fnExactFollowersOfSpec)

/-- ITS FALSE NEIGHBOUR: 'it returns false'. Refute it at one input. -/
def fnExactFollowersOfWrong : ChangeSpec := { name := "fnExactFollowersOf", fn := fun _ => fun
  | [d1, d2] => { results := [.lit (.bool false)], args := [d1, d2] }
  | _ => none }
def FnExactFollowersOfWrongFalsely : Prop := fnExactFollowersOfRow.holds Try.pinned (OpenSpec.ofChange fnExactFollowersOfWrong)

/-- 'laws.FnExactSubdivideEdge': WHATEVER THE INPUT: true; the input reads as it did. -/
def fnExactSubdivideEdgeSpec : ChangeSpec := { name := "fnExactSubdivideEdge", fn := fun _ => fun
  | [d1, d2] => { results := [.lit (.bool true)], args := [d1, d2] }
  | _ => none }
def fnExactSubdivideEdgeRow : OpenClaim := { program := "ytdnlimmdhnaegaa", sum := "5616ae15880e35edc7dcacbf0d439e5f6a04d75a0cddf465a84cebd63c57da02", func := "loop.example/g01298/laws.FnExactSubdivideEdge", spec := "fnExactSubdivideEdge", unfollowed := true, recurses := true, apart := false }
def FnExactSubdivideEdgeSaid : Prop := fnExactSubdivideEdgeRow.holds Try.pinned (OpenSpec.ofChange fnExactSubdivideEdgeSpec)

/-- ITS FALSE NEIGHBOUR: 'it returns false'. Refute it at one input. -/
def fnExactSubdivideEdgeWrong : ChangeSpec := { name := "fnExactSubdivideEdge", fn := fun _ => fun
  | [d1, d2] => { results := [.lit (.bool false)], args := [d1, d2] }
  | _ => none }
def FnExactSubdivideEdgeWrongFalsely : Prop := fnExactSubdivideEdgeRow.holds Try.pinned (OpenSpec.ofChange fnExactSubdivideEdgeWrong)

/-- 'laws.FnExactDeleteEdge': WHATEVER THE INPUT: true; the input reads as it did. -/
def fnExactDeleteEdgeSpec : ChangeSpec := { name := "fnExactDeleteEdge", fn := fun _ => fun
  | [d1, d2] => { results := [.lit (.bool true)], args := [d1, d2] }
  | _ => none }
def fnExactDeleteEdgeRow : OpenClaim := { program := "ytdnlimmdhnaegaa", sum := "5616ae15880e35edc7dcacbf0d439e5f6a04d75a0cddf465a84cebd63c57da02", func := "loop.example/g01298/laws.FnExactDeleteEdge", spec := "fnExactDeleteEdge", unfollowed := true, recurses := true, apart := false }
def FnExactDeleteEdgeSaid : Prop := fnExactDeleteEdgeRow.holds Try.pinned (OpenSpec.ofChange fnExactDeleteEdgeSpec)

/-- ITS FALSE NEIGHBOUR: 'it returns false'. Refute it at one input. -/
def fnExactDeleteEdgeWrong : ChangeSpec := { name := "fnExactDeleteEdge", fn := fun _ => fun
  | [d1, d2] => { results := [.lit (.bool false)], args := [d1, d2] }
  | _ => none }
def FnExactDeleteEdgeWrongFalsely : Prop := fnExactDeleteEdgeRow.holds Try.pinned (OpenSpec.ofChange fnExactDeleteEdgeWrong)

/-- 'laws.FnExactRenumberGraph': WHATEVER THE INPUT: true; the input reads as it did. -/
def fnExactRenumberGraphSpec : ChangeSpec := { name := "fnExactRenumberGraph", fn := fun _ => fun
  | [d1, d2] => { results := [.lit (.bool true)], args := [d1, d2] }
  | _ => none }
def fnExactRenumberGraphRow : OpenClaim := { program := "ytdnlimmdhnaegaa", sum := "5616ae15880e35edc7dcacbf0d439e5f6a04d75a0cddf465a84cebd63c57da02", func := "loop.example/g01298/laws.FnExactRenumberGraph", spec := "fnExactRenumberGraph", unfollowed := true, recurses := true, apart := false }
def FnExactRenumberGraphSaid : Prop := fnExactRenumberGraphRow.holds Try.pinned (OpenSpec.ofChange fnExactRenumberGraphSpec)

/-- ITS FALSE NEIGHBOUR: 'it returns false'. Refute it at one input. -/
def fnExactRenumberGraphWrong : ChangeSpec := { name := "fnExactRenumberGraph", fn := fun _ => fun
  | [d1, d2] => { results := [.lit (.bool false)], args := [d1, d2] }
  | _ => none }
def FnExactRenumberGraphWrongFalsely : Prop := fnExactRenumberGraphRow.holds Try.pinned (OpenSpec.ofChange fnExactRenumberGraphWrong)

/-- 'laws.FnExactTrivialCover': WHATEVER THE INPUT: true; the input reads as it did. -/
def fnExactTrivialCoverSpec : ChangeSpec := { name := "fnExactTrivialCover", fn := fun _ => fun
  | [d1, d2] => { results := [.lit (.bool true)], args := [d1, d2] }
  | _ => none }
def fnExactTrivialCoverRow : OpenClaim := { program := "ytdnlimmdhnaegaa", sum := "5616ae15880e35edc7dcacbf0d439e5f6a04d75a0cddf465a84cebd63c57da02", func := "loop.example/g01298/laws.FnExactTrivialCover", spec := "fnExactTrivialCover", unfollowed := true, recurses := true, apart := false }
def FnExactTrivialCoverSaid : Prop := fnExactTrivialCoverRow.holds Try.pinned (OpenSpec.ofChange fnExactTrivialCoverSpec)

/-- ITS FALSE NEIGHBOUR: 'it returns false'. Refute it at one input. -/
def fnExactTrivialCoverWrong : ChangeSpec := { name := "fnExactTrivialCover", fn := fun _ => fun
  | [d1, d2] => { results := [.lit (.bool false)], args := [d1, d2] }
  | _ => none }
def FnExactTrivialCoverWrongFalsely : Prop := fnExactTrivialCoverRow.holds Try.pinned (OpenSpec.ofChange fnExactTrivialCoverWrong)

/-- 'laws.FnExactSignedLaplacian': WHATEVER THE INPUT: true; the input reads as it did. -/
def fnExactSignedLaplacianSpec : ChangeSpec := { name := "fnExactSignedLaplacian", fn := fun _ => fun
  | [d1, d2] => { results := [.lit (.bool true)], args := [d1, d2] }
  | _ => none }
def fnExactSignedLaplacianRow : OpenClaim := { program := "ytdnlimmdhnaegaa", sum := "5616ae15880e35edc7dcacbf0d439e5f6a04d75a0cddf465a84cebd63c57da02", func := "loop.example/g01298/laws.FnExactSignedLaplacian", spec := "fnExactSignedLaplacian", unfollowed := true, recurses := true, apart := false }
def FnExactSignedLaplacianSaid : Prop := fnExactSignedLaplacianRow.holds Try.pinned (OpenSpec.ofChange fnExactSignedLaplacianSpec)

/-- ITS FALSE NEIGHBOUR: 'it returns false'. Refute it at one input. -/
def fnExactSignedLaplacianWrong : ChangeSpec := { name := "fnExactSignedLaplacian", fn := fun _ => fun
  | [d1, d2] => { results := [.lit (.bool false)], args := [d1, d2] }
  | _ => none }
def FnExactSignedLaplacianWrongFalsely : Prop := fnExactSignedLaplacianRow.holds Try.pinned (OpenSpec.ofChange fnExactSignedLaplacianWrong)

/-- 'laws.FnExactContractEdge': WHATEVER THE INPUT: true; the input reads as it did. -/
def fnExactContractEdgeSpec : ChangeSpec := { name := "fnExactContractEdge", fn := fun _ => fun
  | [d1, d2] => { results := [.lit (.bool true)], args := [d1, d2] }
  | _ => none }
def fnExactContractEdgeRow : OpenClaim := { program := "ytdnlimmdhnaegaa", sum := "5616ae15880e35edc7dcacbf0d439e5f6a04d75a0cddf465a84cebd63c57da02", func := "loop.example/g01298/laws.FnExactContractEdge", spec := "fnExactContractEdge", unfollowed := true, recurses := true, apart := false }
def FnExactContractEdgeSaid : Prop := fnExactContractEdgeRow.holds Try.pinned (OpenSpec.ofChange fnExactContractEdgeSpec)

/-- ITS FALSE NEIGHBOUR: 'it returns false'. Refute it at one input. -/
def fnExactContractEdgeWrong : ChangeSpec := { name := "fnExactContractEdge", fn := fun _ => fun
  | [d1, d2] => { results := [.lit (.bool false)], args := [d1, d2] }
  | _ => none }
def FnExactContractEdgeWrongFalsely : Prop := fnExactContractEdgeRow.holds Try.pinned (OpenSpec.ofChange fnExactContractEdgeWrong)

/-- 'laws.FnExactCyclicCover': WHATEVER THE INPUT: true; the input reads as it did. -/
def fnExactCyclicCoverSpec : ChangeSpec := { name := "fnExactCyclicCover", fn := fun _ => fun
  | [d1, d2, d3] => { results := [.lit (.bool true)], args := [d1, d2, d3] }
  | _ => none }
def fnExactCyclicCoverRow : OpenClaim := { program := "ytdnlimmdhnaegaa", sum := "5616ae15880e35edc7dcacbf0d439e5f6a04d75a0cddf465a84cebd63c57da02", func := "loop.example/g01298/laws.FnExactCyclicCover", spec := "fnExactCyclicCover", unfollowed := true, recurses := true, apart := false }
def FnExactCyclicCoverSaid : Prop := fnExactCyclicCoverRow.holds Try.pinned (OpenSpec.ofChange fnExactCyclicCoverSpec)

/-- ITS FALSE NEIGHBOUR: 'it returns false'. Refute it at one input. -/
def fnExactCyclicCoverWrong : ChangeSpec := { name := "fnExactCyclicCover", fn := fun _ => fun
  | [d1, d2, d3] => { results := [.lit (.bool false)], args := [d1, d2, d3] }
  | _ => none }
def FnExactCyclicCoverWrongFalsely : Prop := fnExactCyclicCoverRow.holds Try.pinned (OpenSpec.ofChange fnExactCyclicCoverWrong)

/-- 'laws.FnExactIsConnectedCover': WHATEVER THE INPUT: true; the input reads as it did. -/
def fnExactIsConnectedCoverSpec : ChangeSpec := { name := "fnExactIsConnectedCover", fn := fun _ => fun
  | [d] => { results := [.lit (.bool true)], args := [d] }
  | _ => none }
def fnExactIsConnectedCoverRow : OpenClaim := { program := "ytdnlimmdhnaegaa", sum := "5616ae15880e35edc7dcacbf0d439e5f6a04d75a0cddf465a84cebd63c57da02", func := "loop.example/g01298/laws.FnExactIsConnectedCover", spec := "fnExactIsConnectedCover", unfollowed := true, recurses := true, apart := false }
def FnExactIsConnectedCoverSaid : Prop := fnExactIsConnectedCoverRow.holds Try.pinned (OpenSpec.ofChange fnExactIsConnectedCoverSpec)

/-- ITS FALSE NEIGHBOUR: 'it returns false'. Refute it at one input. -/
def fnExactIsConnectedCoverWrong : ChangeSpec := { name := "fnExactIsConnectedCover", fn := fun _ => fun
  | [d] => { results := [.lit (.bool false)], args := [d] }
  | _ => none }
def FnExactIsConnectedCoverWrongFalsely : Prop := fnExactIsConnectedCoverRow.holds Try.pinned (OpenSpec.ofChange fnExactIsConnectedCoverWrong)

/- THE SECOND FORM. 'bulk': how many values and letters a reading holds, each counted each time it is reached (what is shared counts as often as it is met; a slice's spare places count too). A statement '..UptoSaid' is the law's where the arguments, and the package variables that the reading takes, are together of bulk at most 1048576: NARROWER than '..Said'. Prove '..Said' where nothing that the law and all that it calls make is longer than what came in: it says more and counts as full. Else prove '..UptoSaid'. A law counts once. -/
mutual
def uptoBulk {H : Type} : DataW H → Nat
  | .lit (.string bytes) => bytes.length + 1
  | .lit _ => 1
  | .nil => 1
  | .ptr d => uptoBulk d + 1
  | .slice elems spare => uptoBulkAll elems + uptoBulkAll spare + 1
  | .agg parts => uptoBulkAll parts + 1
  | .iface _ d => uptoBulk d + 1
  | .map entries => uptoBulkEntries entries + 1
  | .held _ => 1
def uptoBulkAll {H : Type} : List (DataW H) → Nat
  | [] => 0
  | d :: r => uptoBulk d + uptoBulkAll r
def uptoBulkEntries {H : Type} : List (Lit × DataW H) → Nat
  | [] => 0
  | x :: r => uptoBulkEntry x + uptoBulkEntries r
def uptoBulkEntry {H : Type} : Lit × DataW H → Nat
  | (.string bytes, d) => bytes.length + uptoBulk d + 1
  | (_, d) => uptoBulk d + 1
 end
def uptoSmall : (H : Type) → List (DataW H) → Bool := fun _ ds => decide (uptoBulkAll ds ≤ 1048576)
def OpenSpec.upto (s : _root_.Go.ChangeSpec) : _root_.Go.OpenSpec := { _root_.Go.OpenSpec.ofChange s with cond := some uptoSmall }

/-- 'laws.FnExactDegreeOfChips', WHERE WHAT IT READS IS OF BULK AT MOST 1048576: true; the input reads as it did. -/
def fnExactDegreeOfChipsUptoRow : OpenClaim := { program := "ytdnlimmdhnaegaa", sum := "5616ae15880e35edc7dcacbf0d439e5f6a04d75a0cddf465a84cebd63c57da02", func := "loop.example/g01298/laws.FnExactDegreeOfChips", spec := "fnExactDegreeOfChips", unfollowed := true, recurses := true, apart := false, narrowed := true }
def FnExactDegreeOfChipsUptoSaid : Prop := fnExactDegreeOfChipsUptoRow.holds Try.pinned (OpenSpec.upto fnExactDegreeOfChipsSpec)

/-- 'laws.FnExactIsDesk', WHERE WHAT IT READS IS OF BULK AT MOST 1048576: true; the input reads as it did. -/
def fnExactIsDeskUptoRow : OpenClaim := { program := "ytdnlimmdhnaegaa", sum := "5616ae15880e35edc7dcacbf0d439e5f6a04d75a0cddf465a84cebd63c57da02", func := "loop.example/g01298/laws.FnExactIsDesk", spec := "fnExactIsDesk", unfollowed := true, recurses := true, apart := false, narrowed := true }
def FnExactIsDeskUptoSaid : Prop := fnExactIsDeskUptoRow.holds Try.pinned (OpenSpec.upto fnExactIsDeskSpec)

/-- 'laws.FnExactEdgeRows', WHERE WHAT IT READS IS OF BULK AT MOST 1048576: true; the input reads as it did. -/
def fnExactEdgeRowsUptoRow : OpenClaim := { program := "ytdnlimmdhnaegaa", sum := "5616ae15880e35edc7dcacbf0d439e5f6a04d75a0cddf465a84cebd63c57da02", func := "loop.example/g01298/laws.FnExactEdgeRows", spec := "fnExactEdgeRows", apart := false, narrowed := true }
def FnExactEdgeRowsUptoSaid : Prop := fnExactEdgeRowsUptoRow.holds Try.pinned (OpenSpec.upto fnExactEdgeRowsSpec)

/-- 'laws.FnExactFollowersOf', WHERE WHAT IT READS IS OF BULK AT MOST 1048576: true; the input reads as it did. -/
def fnExactFollowersOfUptoRow : OpenClaim := { program := "ytdnlimmdhnaegaa", sum := "5616ae15880e35edc7dcacbf0d439e5f6a04d75a0cddf465a84cebd63c57da02", func := "loop.example/g01298/laws.FnExactFollowersOf", spec := "fnExactFollowersOf", unfollowed := true, recurses := true, apart := false, narrowed := true }
def FnExactFollowersOfUptoSaid : Prop := fnExactFollowersOfUptoRow.holds Try.pinned (OpenSpec.upto fnExactFollowersOfSpec)

/-- 'laws.FnExactSubdivideEdge', WHERE WHAT IT READS IS OF BULK AT MOST 1048576: true; the input reads as it did. -/
def fnExactSubdivideEdgeUptoRow : OpenClaim := { program := "ytdnlimmdhnaegaa", sum := "5616ae15880e35edc7dcacbf0d439e5f6a04d75a0cddf465a84cebd63c57da02", func := "loop.example/g01298/laws.FnExactSubdivideEdge", spec := "fnExactSubdivideEdge", unfollowed := true, recurses := true, apart := false, narrowed := true }
def FnExactSubdivideEdgeUptoSaid : Prop := fnExactSubdivideEdgeUptoRow.holds Try.pinned (OpenSpec.upto fnExactSubdivideEdgeSpec)

/-- 'laws.FnExactDeleteEdge', WHERE WHAT IT READS IS OF BULK AT MOST 1048576: true; the input reads as it did. -/
def fnExactDeleteEdgeUptoRow : OpenClaim := { program := "ytdnlimmdhnaegaa", sum := "5616ae15880e35edc7dcacbf0d439e5f6a04d75a0cddf465a84cebd63c57da02", func := "loop.example/g01298/laws.FnExactDeleteEdge", spec := "fnExactDeleteEdge", unfollowed := true, recurses := true, apart := false, narrowed := true }
def FnExactDeleteEdgeUptoSaid : Prop := fnExactDeleteEdgeUptoRow.holds Try.pinned (OpenSpec.upto fnExactDeleteEdgeSpec)

/-- 'laws.FnExactRenumberGraph', WHERE WHAT IT READS IS OF BULK AT MOST 1048576: true; the input reads as it did. -/
def fnExactRenumberGraphUptoRow : OpenClaim := { program := "ytdnlimmdhnaegaa", sum := "5616ae15880e35edc7dcacbf0d439e5f6a04d75a0cddf465a84cebd63c57da02", func := "loop.example/g01298/laws.FnExactRenumberGraph", spec := "fnExactRenumberGraph", unfollowed := true, recurses := true, apart := false, narrowed := true }
def FnExactRenumberGraphUptoSaid : Prop := fnExactRenumberGraphUptoRow.holds Try.pinned (OpenSpec.upto fnExactRenumberGraphSpec)

/-- 'laws.FnExactTrivialCover', WHERE WHAT IT READS IS OF BULK AT MOST 1048576: true; the input reads as it did. -/
def fnExactTrivialCoverUptoRow : OpenClaim := { program := "ytdnlimmdhnaegaa", sum := "5616ae15880e35edc7dcacbf0d439e5f6a04d75a0cddf465a84cebd63c57da02", func := "loop.example/g01298/laws.FnExactTrivialCover", spec := "fnExactTrivialCover", unfollowed := true, recurses := true, apart := false, narrowed := true }
def FnExactTrivialCoverUptoSaid : Prop := fnExactTrivialCoverUptoRow.holds Try.pinned (OpenSpec.upto fnExactTrivialCoverSpec)

/-- 'laws.FnExactSignedLaplacian', WHERE WHAT IT READS IS OF BULK AT MOST 1048576: true; the input reads as it did. -/
def fnExactSignedLaplacianUptoRow : OpenClaim := { program := "ytdnlimmdhnaegaa", sum := "5616ae15880e35edc7dcacbf0d439e5f6a04d75a0cddf465a84cebd63c57da02", func := "loop.example/g01298/laws.FnExactSignedLaplacian", spec := "fnExactSignedLaplacian", unfollowed := true, recurses := true, apart := false, narrowed := true }
def FnExactSignedLaplacianUptoSaid : Prop := fnExactSignedLaplacianUptoRow.holds Try.pinned (OpenSpec.upto fnExactSignedLaplacianSpec)

/-- 'laws.FnExactContractEdge', WHERE WHAT IT READS IS OF BULK AT MOST 1048576: true; the input reads as it did. -/
def fnExactContractEdgeUptoRow : OpenClaim := { program := "ytdnlimmdhnaegaa", sum := "5616ae15880e35edc7dcacbf0d439e5f6a04d75a0cddf465a84cebd63c57da02", func := "loop.example/g01298/laws.FnExactContractEdge", spec := "fnExactContractEdge", unfollowed := true, recurses := true, apart := false, narrowed := true }
def FnExactContractEdgeUptoSaid : Prop := fnExactContractEdgeUptoRow.holds Try.pinned (OpenSpec.upto fnExactContractEdgeSpec)

/-- 'laws.FnExactCyclicCover', WHERE WHAT IT READS IS OF BULK AT MOST 1048576: true; the input reads as it did. -/
def fnExactCyclicCoverUptoRow : OpenClaim := { program := "ytdnlimmdhnaegaa", sum := "5616ae15880e35edc7dcacbf0d439e5f6a04d75a0cddf465a84cebd63c57da02", func := "loop.example/g01298/laws.FnExactCyclicCover", spec := "fnExactCyclicCover", unfollowed := true, recurses := true, apart := false, narrowed := true }
def FnExactCyclicCoverUptoSaid : Prop := fnExactCyclicCoverUptoRow.holds Try.pinned (OpenSpec.upto fnExactCyclicCoverSpec)

/-- 'laws.FnExactIsConnectedCover', WHERE WHAT IT READS IS OF BULK AT MOST 1048576: true; the input reads as it did. -/
def fnExactIsConnectedCoverUptoRow : OpenClaim := { program := "ytdnlimmdhnaegaa", sum := "5616ae15880e35edc7dcacbf0d439e5f6a04d75a0cddf465a84cebd63c57da02", func := "loop.example/g01298/laws.FnExactIsConnectedCover", spec := "fnExactIsConnectedCover", unfollowed := true, recurses := true, apart := false, narrowed := true }
def FnExactIsConnectedCoverUptoSaid : Prop := fnExactIsConnectedCoverUptoRow.holds Try.pinned (OpenSpec.upto fnExactIsConnectedCoverSpec)

end Rows
end Go.Proofs.Ytdnlimmdhnaegaa
