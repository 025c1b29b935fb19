/-
  No cell of these rows narrows 'for every input' (looked for: loops, veiled, ifaces, maps, wideKeys, modest, calm, conditions, laid).
  DERIVED. THE GIVEN ROWS OF THIS SEAT. 6 by the template 'for every input the law returns true; each argument reads behind the call as it read before'; 0 by the template 'total and deterministic' (their statements: YtjgdibhalmcigaaTotals.lean).
  GIVEN WITH THE SEED: the statements are not yours to turn. If you find one false, say at which input.
  Laid BY PROGRAM, IN A SANDBOX (cutbox-rows.mjs): the forced cells as the released guide's own fill.sh prints them over the translation db121719d4d3f6c2… (all of the seat's roots in one cut). By AI agents, Wed Nov 11 2026. No macro, syntax, notation, axiom, sorry.
-/
import Derived.Test.YtjgdibhalmcigaaChecked
import GoSem.Claim
import GoSem.ClaimJoined
import GoSem.ClaimMapViews
import Derived.JoinedTies
import Derived.KernelRfl
namespace Go.Proofs.Ytjgdibhalmcigaa
/- THE CELL 'sum', in the pinned program and in every row, IS THE sha256 OF THE DUMP (.gsa) THAT YtjgdibhalmcigaaProg.lean LOADS. Nothing in Lean hashes anything: it is a label: what it is worth is what the hold of that sum in a sandbox is worth. -/
noncomputable def Try.pinned : Pinned := { name := "ytjgdibhalmcigaa", sum := "db121719d4d3f6c289db6bc493fb06f976ae5c3c7074ab59afca5f0ba75b82e7", checked := Try.checked }
namespace Rows
def none {H : Type} : Left H := { results := [], args := [] }

/-- 'laws.FnExactEdgeDeterminant': WHATEVER THE INPUT: true; the input reads as it did. -/
def fnExactEdgeDeterminantSpec : ChangeSpec := { name := "fnExactEdgeDeterminant", fn := fun _ => fun
  | [d] => { results := [.lit (.bool true)], args := [d] }
  | _ => none }
def fnExactEdgeDeterminantRow : OpenClaim := { program := "ytjgdibhalmcigaa", sum := "db121719d4d3f6c289db6bc493fb06f976ae5c3c7074ab59afca5f0ba75b82e7", func := "loop.example/g01298/laws.FnExactEdgeDeterminant", spec := "fnExactEdgeDeterminant", apart := false }
def FnExactEdgeDeterminantSaid : Prop := fnExactEdgeDeterminantRow.holds Try.pinned (OpenSpec.ofChange fnExactEdgeDeterminantSpec)

/-- ITS FALSE NEIGHBOUR: 'it returns false'. Refute it at one input. -/
def fnExactEdgeDeterminantWrong : ChangeSpec := { name := "fnExactEdgeDeterminant", fn := fun _ => fun
  | [d] => { results := [.lit (.bool false)], args := [d] }
  | _ => none }
def FnExactEdgeDeterminantWrongFalsely : Prop := fnExactEdgeDeterminantRow.holds Try.pinned (OpenSpec.ofChange fnExactEdgeDeterminantWrong)

/-- 'laws.FnExactBartholdiReciprocal': WHATEVER THE INPUT: true; the input reads as it did. -/
def fnExactBartholdiReciprocalSpec : ChangeSpec := { name := "fnExactBartholdiReciprocal", fn := fun _ => fun
  | [d1, d2, d3] => { results := [.lit (.bool true)], args := [d1, d2, d3] }
  | _ => none }
def fnExactBartholdiReciprocalRow : OpenClaim := { program := "ytjgdibhalmcigaa", sum := "db121719d4d3f6c289db6bc493fb06f976ae5c3c7074ab59afca5f0ba75b82e7", func := "loop.example/g01298/laws.FnExactBartholdiReciprocal", spec := "fnExactBartholdiReciprocal", unfollowed := true, recurses := true, apart := false }
def FnExactBartholdiReciprocalSaid : Prop := fnExactBartholdiReciprocalRow.holds Try.pinned (OpenSpec.ofChange fnExactBartholdiReciprocalSpec)

/-- ITS FALSE NEIGHBOUR: 'it returns false'. Refute it at one input. -/
def fnExactBartholdiReciprocalWrong : ChangeSpec := { name := "fnExactBartholdiReciprocal", fn := fun _ => fun
  | [d1, d2, d3] => { results := [.lit (.bool false)], args := [d1, d2, d3] }
  | _ => none }
def FnExactBartholdiReciprocalWrongFalsely : Prop := fnExactBartholdiReciprocalRow.holds Try.pinned (OpenSpec.ofChange fnExactBartholdiReciprocalWrong)

/-- 'laws.FnExactWeightedReciprocal': WHATEVER THE INPUT: true; the input reads as it did. -/
def fnExactWeightedReciprocalSpec : ChangeSpec := { name := "fnExactWeightedReciprocal", fn := fun _ => fun
  | [d1, d2, d3] => { results := [.lit (.bool true)], args := [d1, d2, d3] }
  | _ => none }
def fnExactWeightedReciprocalRow : OpenClaim := { program := "ytjgdibhalmcigaa", sum := "db121719d4d3f6c289db6bc493fb06f976ae5c3c7074ab59afca5f0ba75b82e7", func := "loop.example/g01298/laws.FnExactWeightedReciprocal", spec := "fnExactWeightedReciprocal", unfollowed := true, recurses := true, apart := false }
def FnExactWeightedReciprocalSaid : Prop := fnExactWeightedReciprocalRow.holds Try.pinned (OpenSpec.ofChange fnExactWeightedReciprocalSpec)

/-- ITS FALSE NEIGHBOUR: 'it returns false'. Refute it at one input. -/
def fnExactWeightedReciprocalWrong : ChangeSpec := { name := "fnExactWeightedReciprocal", fn := fun _ => fun
  | [d1, d2, d3] => { results := [.lit (.bool false)], args := [d1, d2, d3] }
  | _ => none }
def FnExactWeightedReciprocalWrongFalsely : Prop := fnExactWeightedReciprocalRow.holds Try.pinned (OpenSpec.ofChange fnExactWeightedReciprocalWrong)

/-- 'laws.FnPruning': WHATEVER THE INPUT: true; the input reads as it did. -/
def fnPruningSpec : ChangeSpec := { name := "fnPruning", fn := fun _ => fun
  | [d] => { results := [.lit (.bool true)], args := [d] }
  | _ => none }
def fnPruningRow : OpenClaim := { program := "ytjgdibhalmcigaa", sum := "db121719d4d3f6c289db6bc493fb06f976ae5c3c7074ab59afca5f0ba75b82e7", func := "loop.example/g01298/laws.FnPruning", spec := "fnPruning", unfollowed := true, recurses := true, apart := false }
def FnPruningSaid : Prop := fnPruningRow.holds Try.pinned (OpenSpec.ofChange fnPruningSpec)

/-- ITS FALSE NEIGHBOUR: 'it returns false'. Refute it at one input. -/
def fnPruningWrong : ChangeSpec := { name := "fnPruning", fn := fun _ => fun
  | [d] => { results := [.lit (.bool false)], args := [d] }
  | _ => none }
def FnPruningWrongFalsely : Prop := fnPruningRow.holds Try.pinned (OpenSpec.ofChange fnPruningWrong)

/-- 'laws.FnExactReduceChips': WHATEVER THE INPUT: true; the input reads as it did. -/
def fnExactReduceChipsSpec : ChangeSpec := { name := "fnExactReduceChips", fn := fun _ => fun
  | [d1, d2, d3] => { results := [.lit (.bool true)], args := [d1, d2, d3] }
  | _ => none }
def fnExactReduceChipsRow : OpenClaim := { program := "ytjgdibhalmcigaa", sum := "db121719d4d3f6c289db6bc493fb06f976ae5c3c7074ab59afca5f0ba75b82e7", func := "loop.example/g01298/laws.FnExactReduceChips", spec := "fnExactReduceChips", inPlace := ["slices.overlaps[int64]"], unfollowed := true, recurses := true, apart := false }
def FnExactReduceChipsSaid : Prop := fnExactReduceChipsRow.holds Try.pinned (OpenSpec.ofChange fnExactReduceChipsSpec)

/-- ITS FALSE NEIGHBOUR: 'it returns false'. Refute it at one input. -/
def fnExactReduceChipsWrong : ChangeSpec := { name := "fnExactReduceChips", fn := fun _ => fun
  | [d1, d2, d3] => { results := [.lit (.bool false)], args := [d1, d2, d3] }
  | _ => none }
def FnExactReduceChipsWrongFalsely : Prop := fnExactReduceChipsRow.holds Try.pinned (OpenSpec.ofChange fnExactReduceChipsWrong)

/-- 'laws.FnExactAreEquivalentChips': WHATEVER THE INPUT: true; the input reads as it did. -/
def fnExactAreEquivalentChipsSpec : ChangeSpec := { name := "fnExactAreEquivalentChips", fn := fun _ => fun
  | [d1, d2, d3] => { results := [.lit (.bool true)], args := [d1, d2, d3] }
  | _ => none }
def fnExactAreEquivalentChipsRow : OpenClaim := { program := "ytjgdibhalmcigaa", sum := "db121719d4d3f6c289db6bc493fb06f976ae5c3c7074ab59afca5f0ba75b82e7", func := "loop.example/g01298/laws.FnExactAreEquivalentChips", spec := "fnExactAreEquivalentChips", inPlace := ["slices.overlaps[int64]"], unfollowed := true, recurses := true, apart := false }
def FnExactAreEquivalentChipsSaid : Prop := fnExactAreEquivalentChipsRow.holds Try.pinned (OpenSpec.ofChange fnExactAreEquivalentChipsSpec)

/-- ITS FALSE NEIGHBOUR: 'it returns false'. Refute it at one input. -/
def fnExactAreEquivalentChipsWrong : ChangeSpec := { name := "fnExactAreEquivalentChips", fn := fun _ => fun
  | [d1, d2, d3] => { results := [.lit (.bool false)], args := [d1, d2, d3] }
  | _ => none }
def FnExactAreEquivalentChipsWrongFalsely : Prop := fnExactAreEquivalentChipsRow.holds Try.pinned (OpenSpec.ofChange fnExactAreEquivalentChipsWrong)

/- THE SECOND FORM. 'bulk': how many values and letters a reading holds, each counted each time it is reached (what is shared counts as often as it is met; a slice's spare places count too). A statement '..UptoSaid' is the law's where the arguments, and the package variables that the reading takes, are together of bulk at most 1048576: NARROWER than '..Said'. Prove '..Said' where nothing that the law and all that it calls make is longer than what came in: it says more and counts as full. Else prove '..UptoSaid'. A law counts once. -/
mutual
def uptoBulk {H : Type} : DataW H → Nat
  | .lit (.string bytes) => bytes.length + 1
  | .lit _ => 1
  | .nil => 1
  | .ptr d => uptoBulk d + 1
  | .slice elems spare => uptoBulkAll elems + uptoBulkAll spare + 1
  | .agg parts => uptoBulkAll parts + 1
  | .iface _ d => uptoBulk d + 1
  | .map entries => uptoBulkEntries entries + 1
  | .held _ => 1
def uptoBulkAll {H : Type} : List (DataW H) → Nat
  | [] => 0
  | d :: r => uptoBulk d + uptoBulkAll r
def uptoBulkEntries {H : Type} : List (Lit × DataW H) → Nat
  | [] => 0
  | x :: r => uptoBulkEntry x + uptoBulkEntries r
def uptoBulkEntry {H : Type} : Lit × DataW H → Nat
  | (.string bytes, d) => bytes.length + uptoBulk d + 1
  | (_, d) => uptoBulk d + 1
 end
def uptoSmall : (H : Type) → List (DataW H) → Bool := fun _ ds => decide (uptoBulkAll ds ≤ 1048576)
def OpenSpec.upto (s : _root_.Go.ChangeSpec) : _root_.Go.OpenSpec := { _root_.Go.OpenSpec.ofChange s with cond := some uptoSmall }

/-- 'laws.FnExactEdgeDeterminant', WHERE WHAT IT READS IS OF BULK AT MOST 1048576: true; the input reads as it did. -/
def fnExactEdgeDeterminantUptoRow : OpenClaim := { program := "ytjgdibhalmcigaa", sum := "db121719d4d3f6c289db6bc493fb06f976ae5c3c7074ab59afca5f0ba75b82e7", func := "loop.example/g01298/laws.FnExactEdgeDeterminant", spec := "fnExactEdgeDeterminant", apart := false, narrowed := true }
def FnExactEdgeDeterminantUptoSaid : Prop := fnExactEdgeDeterminantUptoRow.holds Try.pinned (OpenSpec.upto fnExactEdgeDeterminantSpec)

/-- 'laws.FnExactBartholdiReciprocal', WHERE WHAT IT READS IS OF BULK AT MOST 1048576: true; the input reads as it did. -/
def fnExactBartholdiReciprocalUptoRow : OpenClaim := { program := "ytjgdibhalmcigaa", sum := "db121719d4d3f6c289db6bc493fb06f976ae5c3c7074ab59afca5f0ba75b82e7", func := "loop.example/g01298/laws.FnExactBartholdiReciprocal", spec := "fnExactBartholdiReciprocal", unfollowed := true, recurses := true, apart := false, narrowed := true }
def FnExactBartholdiReciprocalUptoSaid : Prop := fnExactBartholdiReciprocalUptoRow.holds Try.pinned (OpenSpec.upto fnExactBartholdiReciprocalSpec)

/-- 'laws.FnExactWeightedReciprocal', WHERE WHAT IT READS IS OF BULK AT MOST 1048576: true; the input reads as it did. -/
def fnExactWeightedReciprocalUptoRow : OpenClaim := { program := "ytjgdibhalmcigaa", sum := "db121719d4d3f6c289db6bc493fb06f976ae5c3c7074ab59afca5f0ba75b82e7", func := "loop.example/g01298/laws.FnExactWeightedReciprocal", spec := "fnExactWeightedReciprocal", unfollowed := true, recurses := true, apart := false, narrowed := true }
def FnExactWeightedReciprocalUptoSaid : Prop := fnExactWeightedReciprocalUptoRow.holds Try.pinned (OpenSpec.upto fnExactWeightedReciprocalSpec)

/-- 'laws.FnPruning', WHERE WHAT IT READS IS OF BULK AT MOST 1048576: true; the input reads as it did. -/
def fnPruningUptoRow : OpenClaim := { program := "ytjgdibhalmcigaa", sum := "db121719d4d3f6c289db6bc493fb06f976ae5c3c7074ab59afca5f0ba75b82e7", func := "loop.example/g01298/laws.FnPruning", spec := "fnPruning", unfollowed := true, recurses := true, apart := false, narrowed := true }
def FnPruningUptoSaid : Prop := fnPruningUptoRow.holds Try.pinned (OpenSpec.upto fnPruningSpec)

/-- 'laws.FnExactReduceChips', WHERE WHAT IT READS IS OF BULK AT MOST 1048576: true; the input reads as it did. -/
def fnExactReduceChipsUptoRow : OpenClaim := { program := "ytjgdibhalmcigaa", sum := "db121719d4d3f6c289db6bc493fb06f976ae5c3c7074ab59afca5f0ba75b82e7", func := "loop.example/g01298/laws.FnExactReduceChips", spec := "fnExactReduceChips", inPlace := ["slices.overlaps[int64]"], unfollowed := true, recurses := true, apart := false, narrowed := true }
def FnExactReduceChipsUptoSaid : Prop := fnExactReduceChipsUptoRow.holds Try.pinned (OpenSpec.upto fnExactReduceChipsSpec)

/-- 'laws.FnExactAreEquivalentChips', WHERE WHAT IT READS IS OF BULK AT MOST 1048576: true; the input reads as it did. -/
def fnExactAreEquivalentChipsUptoRow : OpenClaim := { program := "ytjgdibhalmcigaa", sum := "db121719d4d3f6c289db6bc493fb06f976ae5c3c7074ab59afca5f0ba75b82e7", func := "loop.example/g01298/laws.FnExactAreEquivalentChips", spec := "fnExactAreEquivalentChips", inPlace := ["slices.overlaps[int64]"], unfollowed := true, recurses := true, apart := false, narrowed := true }
def FnExactAreEquivalentChipsUptoSaid : Prop := fnExactAreEquivalentChipsUptoRow.holds Try.pinned (OpenSpec.upto fnExactAreEquivalentChipsSpec)

end Rows
end Go.Proofs.Ytjgdibhalmcigaa
