/-
  No cell of these rows narrows 'for every input' (looked for: loops, veiled, ifaces, maps, wideKeys, modest, calm, conditions, laid).
  DERIVED. THE GIVEN ROWS OF THIS SEAT. 11 by the template 'for every input the law returns true; each argument reads behind the call as it read before'; 0 by the template 'total and deterministic' (their statements: YtoebojnhchocaaaTotals.lean).
  GIVEN WITH THE SEED: the statements are not yours to turn. If you find one false, say at which input.
  Laid BY PROGRAM, IN A SANDBOX (cutbox-rows.mjs): the forced cells as the released guide's own fill.sh prints them over the translation 60f6cb2f56c9efb2… (all of the seat's roots in one cut). By AI agents, Wed Nov 11 2026. No macro, syntax, notation, axiom, sorry.
-/
import Derived.Test.YtoebojnhchocaaaChecked
import GoSem.Claim
import GoSem.ClaimJoined
import GoSem.ClaimMapViews
import Derived.JoinedTies
import Derived.KernelRfl
namespace Go.Proofs.Ytoebojnhchocaaa
/- THE CELL 'sum', in the pinned program and in every row, IS THE sha256 OF THE DUMP (.gsa) THAT YtoebojnhchocaaaProg.lean LOADS. Nothing in Lean hashes anything: it is a label: what it is worth is what the hold of that sum in a sandbox is worth. -/
noncomputable def Try.pinned : Pinned := { name := "ytoebojnhchocaaa", sum := "60f6cb2f56c9efb260658abd1dba46c70f589fbfe8e293b16e969faa4e9c59bd", checked := Try.checked }
namespace Rows
def none {H : Type} : Left H := { results := [], args := [] }

/-- 'laws.FnExactQuotientOfCover': WHATEVER THE INPUT: true; the input reads as it did. -/
def fnExactQuotientOfCoverSpec : ChangeSpec := { name := "fnExactQuotientOfCover", fn := fun _ => fun
  | [d] => { results := [.lit (.bool true)], args := [d] }
  | _ => none }
def fnExactQuotientOfCoverRow : OpenClaim := { program := "ytoebojnhchocaaa", sum := "60f6cb2f56c9efb260658abd1dba46c70f589fbfe8e293b16e969faa4e9c59bd", func := "loop.example/g01298/laws.FnExactQuotientOfCover", spec := "fnExactQuotientOfCover", unfollowed := true, recurses := true, apart := false }
def FnExactQuotientOfCoverSaid : Prop := fnExactQuotientOfCoverRow.holds Try.pinned (OpenSpec.ofChange fnExactQuotientOfCoverSpec)

/-- ITS FALSE NEIGHBOUR: 'it returns false'. Refute it at one input. -/
def fnExactQuotientOfCoverWrong : ChangeSpec := { name := "fnExactQuotientOfCover", fn := fun _ => fun
  | [d] => { results := [.lit (.bool false)], args := [d] }
  | _ => none }
def FnExactQuotientOfCoverWrongFalsely : Prop := fnExactQuotientOfCoverRow.holds Try.pinned (OpenSpec.ofChange fnExactQuotientOfCoverWrong)

/-- 'laws.FnExactReduceChips': WHATEVER THE INPUT: true; the input reads as it did. -/
def fnExactReduceChipsSpec : ChangeSpec := { name := "fnExactReduceChips", fn := fun _ => fun
  | [d1, d2, d3] => { results := [.lit (.bool true)], args := [d1, d2, d3] }
  | _ => none }
def fnExactReduceChipsRow : OpenClaim := { program := "ytoebojnhchocaaa", sum := "60f6cb2f56c9efb260658abd1dba46c70f589fbfe8e293b16e969faa4e9c59bd", func := "loop.example/g01298/laws.FnExactReduceChips", spec := "fnExactReduceChips", inPlace := ["slices.overlaps[int64]"], unfollowed := true, recurses := true, apart := false }
def FnExactReduceChipsSaid : Prop := fnExactReduceChipsRow.holds Try.pinned (OpenSpec.ofChange fnExactReduceChipsSpec)

/-- ITS FALSE NEIGHBOUR: 'it returns false'. Refute it at one input. -/
def fnExactReduceChipsWrong : ChangeSpec := { name := "fnExactReduceChips", fn := fun _ => fun
  | [d1, d2, d3] => { results := [.lit (.bool false)], args := [d1, d2, d3] }
  | _ => none }
def FnExactReduceChipsWrongFalsely : Prop := fnExactReduceChipsRow.holds Try.pinned (OpenSpec.ofChange fnExactReduceChipsWrong)

/-- 'laws.FnExactAreEquivalentChips': WHATEVER THE INPUT: true; the input reads as it did. -/
def fnExactAreEquivalentChipsSpec : ChangeSpec := { name := "fnExactAreEquivalentChips", fn := fun _ => fun
  | [d1, d2, d3] => { results := [.lit (.bool true)], args := [d1, d2, d3] }
  | _ => none }
def fnExactAreEquivalentChipsRow : OpenClaim := { program := "ytoebojnhchocaaa", sum := "60f6cb2f56c9efb260658abd1dba46c70f589fbfe8e293b16e969faa4e9c59bd", func := "loop.example/g01298/laws.FnExactAreEquivalentChips", spec := "fnExactAreEquivalentChips", inPlace := ["slices.overlaps[int64]"], unfollowed := true, recurses := true, apart := false }
def FnExactAreEquivalentChipsSaid : Prop := fnExactAreEquivalentChipsRow.holds Try.pinned (OpenSpec.ofChange fnExactAreEquivalentChipsSpec)

/-- ITS FALSE NEIGHBOUR: 'it returns false'. Refute it at one input. -/
def fnExactAreEquivalentChipsWrong : ChangeSpec := { name := "fnExactAreEquivalentChips", fn := fun _ => fun
  | [d1, d2, d3] => { results := [.lit (.bool false)], args := [d1, d2, d3] }
  | _ => none }
def FnExactAreEquivalentChipsWrongFalsely : Prop := fnExactAreEquivalentChipsRow.holds Try.pinned (OpenSpec.ofChange fnExactAreEquivalentChipsWrong)

/-- 'laws.FnExactOrderOfChips': WHATEVER THE INPUT: true; the input reads as it did. -/
def fnExactOrderOfChipsSpec : ChangeSpec := { name := "fnExactOrderOfChips", fn := fun _ => fun
  | [d1, d2] => { results := [.lit (.bool true)], args := [d1, d2] }
  | _ => none }
def fnExactOrderOfChipsRow : OpenClaim := { program := "ytoebojnhchocaaa", sum := "60f6cb2f56c9efb260658abd1dba46c70f589fbfe8e293b16e969faa4e9c59bd", func := "loop.example/g01298/laws.FnExactOrderOfChips", spec := "fnExactOrderOfChips", inPlace := ["slices.overlaps[int64]"], unfollowed := true, recurses := true, apart := false }
def FnExactOrderOfChipsSaid : Prop := fnExactOrderOfChipsRow.holds Try.pinned (OpenSpec.ofChange fnExactOrderOfChipsSpec)

/-- ITS FALSE NEIGHBOUR: 'it returns false'. Refute it at one input. -/
def fnExactOrderOfChipsWrong : ChangeSpec := { name := "fnExactOrderOfChips", fn := fun _ => fun
  | [d1, d2] => { results := [.lit (.bool false)], args := [d1, d2] }
  | _ => none }
def FnExactOrderOfChipsWrongFalsely : Prop := fnExactOrderOfChipsRow.holds Try.pinned (OpenSpec.ofChange fnExactOrderOfChipsWrong)

/-- 'laws.FnExactCountClasses': WHATEVER THE INPUT: true; the input reads as it did. -/
def fnExactCountClassesSpec : ChangeSpec := { name := "fnExactCountClasses", fn := fun _ => fun
  | [d] => { results := [.lit (.bool true)], args := [d] }
  | _ => none }
def fnExactCountClassesRow : OpenClaim := { program := "ytoebojnhchocaaa", sum := "60f6cb2f56c9efb260658abd1dba46c70f589fbfe8e293b16e969faa4e9c59bd", func := "loop.example/g01298/laws.FnExactCountClasses", spec := "fnExactCountClasses", unfollowed := true, recurses := true, apart := false }
def FnExactCountClassesSaid : Prop := fnExactCountClassesRow.holds Try.pinned (OpenSpec.ofChange fnExactCountClassesSpec)

/-- ITS FALSE NEIGHBOUR: 'it returns false'. Refute it at one input. -/
def fnExactCountClassesWrong : ChangeSpec := { name := "fnExactCountClasses", fn := fun _ => fun
  | [d] => { results := [.lit (.bool false)], args := [d] }
  | _ => none }
def FnExactCountClassesWrongFalsely : Prop := fnExactCountClassesRow.holds Try.pinned (OpenSpec.ofChange fnExactCountClassesWrong)

/-- 'laws.FnExactFactorsOf': WHATEVER THE INPUT: true; the input reads as it did. -/
def fnExactFactorsOfSpec : ChangeSpec := { name := "fnExactFactorsOf", fn := fun _ => fun
  | [d] => { results := [.lit (.bool true)], args := [d] }
  | _ => none }
def fnExactFactorsOfRow : OpenClaim := { program := "ytoebojnhchocaaa", sum := "60f6cb2f56c9efb260658abd1dba46c70f589fbfe8e293b16e969faa4e9c59bd", func := "loop.example/g01298/laws.FnExactFactorsOf", spec := "fnExactFactorsOf", apart := false }
def FnExactFactorsOfSaid : Prop := fnExactFactorsOfRow.holds Try.pinned (OpenSpec.ofChange fnExactFactorsOfSpec)

/-- ITS FALSE NEIGHBOUR: 'it returns false'. Refute it at one input. -/
def fnExactFactorsOfWrong : ChangeSpec := { name := "fnExactFactorsOf", fn := fun _ => fun
  | [d] => { results := [.lit (.bool false)], args := [d] }
  | _ => none }
def FnExactFactorsOfWrongFalsely : Prop := fnExactFactorsOfRow.holds Try.pinned (OpenSpec.ofChange fnExactFactorsOfWrong)

/-- 'laws.FnExactCriticalFactors': WHATEVER THE INPUT: true; the input reads as it did. -/
def fnExactCriticalFactorsSpec : ChangeSpec := { name := "fnExactCriticalFactors", fn := fun _ => fun
  | [d] => { results := [.lit (.bool true)], args := [d] }
  | _ => none }
def fnExactCriticalFactorsRow : OpenClaim := { program := "ytoebojnhchocaaa", sum := "60f6cb2f56c9efb260658abd1dba46c70f589fbfe8e293b16e969faa4e9c59bd", func := "loop.example/g01298/laws.FnExactCriticalFactors", spec := "fnExactCriticalFactors", unfollowed := true, recurses := true, apart := false }
def FnExactCriticalFactorsSaid : Prop := fnExactCriticalFactorsRow.holds Try.pinned (OpenSpec.ofChange fnExactCriticalFactorsSpec)

/-- ITS FALSE NEIGHBOUR: 'it returns false'. Refute it at one input. -/
def fnExactCriticalFactorsWrong : ChangeSpec := { name := "fnExactCriticalFactors", fn := fun _ => fun
  | [d] => { results := [.lit (.bool false)], args := [d] }
  | _ => none }
def FnExactCriticalFactorsWrongFalsely : Prop := fnExactCriticalFactorsRow.holds Try.pinned (OpenSpec.ofChange fnExactCriticalFactorsWrong)

/-- 'laws.FnCodes': WHATEVER THE INPUT: true; the input reads as it did. -/
def fnCodesSpec : ChangeSpec := { name := "fnCodes", fn := fun _ => fun
  | [d] => { results := [.lit (.bool true)], args := [d] }
  | _ => none }
def fnCodesRow : OpenClaim := { program := "ytoebojnhchocaaa", sum := "60f6cb2f56c9efb260658abd1dba46c70f589fbfe8e293b16e969faa4e9c59bd", func := "loop.example/g01298/laws.FnCodes", spec := "fnCodes", unfollowed := true, recurses := true, apart := false }
def FnCodesSaid : Prop := fnCodesRow.holds Try.pinned (OpenSpec.ofChange fnCodesSpec)

/-- ITS FALSE NEIGHBOUR: 'it returns false'. Refute it at one input. -/
def fnCodesWrong : ChangeSpec := { name := "fnCodes", fn := fun _ => fun
  | [d] => { results := [.lit (.bool false)], args := [d] }
  | _ => none }
def FnCodesWrongFalsely : Prop := fnCodesRow.holds Try.pinned (OpenSpec.ofChange fnCodesWrong)

/-- 'laws.FnSigns': WHATEVER THE INPUT: true; the input reads as it did. -/
def fnSignsSpec : ChangeSpec := { name := "fnSigns", fn := fun _ => fun
  | [d] => { results := [.lit (.bool true)], args := [d] }
  | _ => none }
def fnSignsRow : OpenClaim := { program := "ytoebojnhchocaaa", sum := "60f6cb2f56c9efb260658abd1dba46c70f589fbfe8e293b16e969faa4e9c59bd", func := "loop.example/g01298/laws.FnSigns", spec := "fnSigns", unfollowed := true, recurses := true, apart := false }
def FnSignsSaid : Prop := fnSignsRow.holds Try.pinned (OpenSpec.ofChange fnSignsSpec)

/-- ITS FALSE NEIGHBOUR: 'it returns false'. Refute it at one input. -/
def fnSignsWrong : ChangeSpec := { name := "fnSigns", fn := fun _ => fun
  | [d] => { results := [.lit (.bool false)], args := [d] }
  | _ => none }
def FnSignsWrongFalsely : Prop := fnSignsRow.holds Try.pinned (OpenSpec.ofChange fnSignsWrong)

/-- 'laws.FnCriticalGroups': WHATEVER THE INPUT: true; the input reads as it did. -/
def fnCriticalGroupsSpec : ChangeSpec := { name := "fnCriticalGroups", fn := fun _ => fun
  | [d] => { results := [.lit (.bool true)], args := [d] }
  | _ => none }
def fnCriticalGroupsRow : OpenClaim := { program := "ytoebojnhchocaaa", sum := "60f6cb2f56c9efb260658abd1dba46c70f589fbfe8e293b16e969faa4e9c59bd", func := "loop.example/g01298/laws.FnCriticalGroups", spec := "fnCriticalGroups", unfollowed := true, recurses := true, apart := false }
def FnCriticalGroupsSaid : Prop := fnCriticalGroupsRow.holds Try.pinned (OpenSpec.ofChange fnCriticalGroupsSpec)

/-- ITS FALSE NEIGHBOUR: 'it returns false'. Refute it at one input. -/
def fnCriticalGroupsWrong : ChangeSpec := { name := "fnCriticalGroups", fn := fun _ => fun
  | [d] => { results := [.lit (.bool false)], args := [d] }
  | _ => none }
def FnCriticalGroupsWrongFalsely : Prop := fnCriticalGroupsRow.holds Try.pinned (OpenSpec.ofChange fnCriticalGroupsWrong)

/-- 'laws.FnIsomorphisms': WHATEVER THE INPUT: true; the input reads as it did. -/
def fnIsomorphismsSpec : ChangeSpec := { name := "fnIsomorphisms", fn := fun _ => fun
  | [d] => { results := [.lit (.bool true)], args := [d] }
  | _ => none }
def fnIsomorphismsRow : OpenClaim := { program := "ytoebojnhchocaaa", sum := "60f6cb2f56c9efb260658abd1dba46c70f589fbfe8e293b16e969faa4e9c59bd", func := "loop.example/g01298/laws.FnIsomorphisms", spec := "fnIsomorphisms", unfollowed := true, recurses := true, apart := false }
def FnIsomorphismsSaid : Prop := fnIsomorphismsRow.holds Try.pinned (OpenSpec.ofChange fnIsomorphismsSpec)

/-- ITS FALSE NEIGHBOUR: 'it returns false'. Refute it at one input. -/
def fnIsomorphismsWrong : ChangeSpec := { name := "fnIsomorphisms", fn := fun _ => fun
  | [d] => { results := [.lit (.bool false)], args := [d] }
  | _ => none }
def FnIsomorphismsWrongFalsely : Prop := fnIsomorphismsRow.holds Try.pinned (OpenSpec.ofChange fnIsomorphismsWrong)

/- THE SECOND FORM. 'bulk': how many values and letters a reading holds, each counted each time it is reached (what is shared counts as often as it is met; a slice's spare places count too). A statement '..UptoSaid' is the law's where the arguments, and the package variables that the reading takes, are together of bulk at most 1048576: NARROWER than '..Said'. Prove '..Said' where nothing that the law and all that it calls make is longer than what came in: it says more and counts as full. Else prove '..UptoSaid'. A law counts once. -/
mutual
def uptoBulk {H : Type} : DataW H → Nat
  | .lit (.string bytes) => bytes.length + 1
  | .lit _ => 1
  | .nil => 1
  | .ptr d => uptoBulk d + 1
  | .slice elems spare => uptoBulkAll elems + uptoBulkAll spare + 1
  | .agg parts => uptoBulkAll parts + 1
  | .iface _ d => uptoBulk d + 1
  | .map entries => uptoBulkEntries entries + 1
  | .held _ => 1
def uptoBulkAll {H : Type} : List (DataW H) → Nat
  | [] => 0
  | d :: r => uptoBulk d + uptoBulkAll r
def uptoBulkEntries {H : Type} : List (Lit × DataW H) → Nat
  | [] => 0
  | x :: r => uptoBulkEntry x + uptoBulkEntries r
def uptoBulkEntry {H : Type} : Lit × DataW H → Nat
  | (.string bytes, d) => bytes.length + uptoBulk d + 1
  | (_, d) => uptoBulk d + 1
 end
def uptoSmall : (H : Type) → List (DataW H) → Bool := fun _ ds => decide (uptoBulkAll ds ≤ 1048576)
def OpenSpec.upto (s : _root_.Go.ChangeSpec) : _root_.Go.OpenSpec := { _root_.Go.OpenSpec.ofChange s with cond := some uptoSmall }

/-- 'laws.FnExactQuotientOfCover', WHERE WHAT IT READS IS OF BULK AT MOST 1048576: true; the input reads as it did. -/
def fnExactQuotientOfCoverUptoRow : OpenClaim := { program := "ytoebojnhchocaaa", sum := "60f6cb2f56c9efb260658abd1dba46c70f589fbfe8e293b16e969faa4e9c59bd", func := "loop.example/g01298/laws.FnExactQuotientOfCover", spec := "fnExactQuotientOfCover", unfollowed := true, recurses := true, apart := false, narrowed := true }
def FnExactQuotientOfCoverUptoSaid : Prop := fnExactQuotientOfCoverUptoRow.holds Try.pinned (OpenSpec.upto fnExactQuotientOfCoverSpec)

/-- 'laws.FnExactReduceChips', WHERE WHAT IT READS IS OF BULK AT MOST 1048576: true; the input reads as it did. -/
def fnExactReduceChipsUptoRow : OpenClaim := { program := "ytoebojnhchocaaa", sum := "60f6cb2f56c9efb260658abd1dba46c70f589fbfe8e293b16e969faa4e9c59bd", func := "loop.example/g01298/laws.FnExactReduceChips", spec := "fnExactReduceChips", inPlace := ["slices.overlaps[int64]"], unfollowed := true, recurses := true, apart := false, narrowed := true }
def FnExactReduceChipsUptoSaid : Prop := fnExactReduceChipsUptoRow.holds Try.pinned (OpenSpec.upto fnExactReduceChipsSpec)

/-- 'laws.FnExactAreEquivalentChips', WHERE WHAT IT READS IS OF BULK AT MOST 1048576: true; the input reads as it did. -/
def fnExactAreEquivalentChipsUptoRow : OpenClaim := { program := "ytoebojnhchocaaa", sum := "60f6cb2f56c9efb260658abd1dba46c70f589fbfe8e293b16e969faa4e9c59bd", func := "loop.example/g01298/laws.FnExactAreEquivalentChips", spec := "fnExactAreEquivalentChips", inPlace := ["slices.overlaps[int64]"], unfollowed := true, recurses := true, apart := false, narrowed := true }
def FnExactAreEquivalentChipsUptoSaid : Prop := fnExactAreEquivalentChipsUptoRow.holds Try.pinned (OpenSpec.upto fnExactAreEquivalentChipsSpec)

/-- 'laws.FnExactOrderOfChips', WHERE WHAT IT READS IS OF BULK AT MOST 1048576: true; the input reads as it did. -/
def fnExactOrderOfChipsUptoRow : OpenClaim := { program := "ytoebojnhchocaaa", sum := "60f6cb2f56c9efb260658abd1dba46c70f589fbfe8e293b16e969faa4e9c59bd", func := "loop.example/g01298/laws.FnExactOrderOfChips", spec := "fnExactOrderOfChips", inPlace := ["slices.overlaps[int64]"], unfollowed := true, recurses := true, apart := false, narrowed := true }
def FnExactOrderOfChipsUptoSaid : Prop := fnExactOrderOfChipsUptoRow.holds Try.pinned (OpenSpec.upto fnExactOrderOfChipsSpec)

/-- 'laws.FnExactCountClasses', WHERE WHAT IT READS IS OF BULK AT MOST 1048576: true; the input reads as it did. -/
def fnExactCountClassesUptoRow : OpenClaim := { program := "ytoebojnhchocaaa", sum := "60f6cb2f56c9efb260658abd1dba46c70f589fbfe8e293b16e969faa4e9c59bd", func := "loop.example/g01298/laws.FnExactCountClasses", spec := "fnExactCountClasses", unfollowed := true, recurses := true, apart := false, narrowed := true }
def FnExactCountClassesUptoSaid : Prop := fnExactCountClassesUptoRow.holds Try.pinned (OpenSpec.upto fnExactCountClassesSpec)

/-- 'laws.FnExactFactorsOf', WHERE WHAT IT READS IS OF BULK AT MOST 1048576: true; the input reads as it did. -/
def fnExactFactorsOfUptoRow : OpenClaim := { program := "ytoebojnhchocaaa", sum := "60f6cb2f56c9efb260658abd1dba46c70f589fbfe8e293b16e969faa4e9c59bd", func := "loop.example/g01298/laws.FnExactFactorsOf", spec := "fnExactFactorsOf", apart := false, narrowed := true }
def FnExactFactorsOfUptoSaid : Prop := fnExactFactorsOfUptoRow.holds Try.pinned (OpenSpec.upto fnExactFactorsOfSpec)

/-- 'laws.FnExactCriticalFactors', WHERE WHAT IT READS IS OF BULK AT MOST 1048576: true; the input reads as it did. -/
def fnExactCriticalFactorsUptoRow : OpenClaim := { program := "ytoebojnhchocaaa", sum := "60f6cb2f56c9efb260658abd1dba46c70f589fbfe8e293b16e969faa4e9c59bd", func := "loop.example/g01298/laws.FnExactCriticalFactors", spec := "fnExactCriticalFactors", unfollowed := true, recurses := true, apart := false, narrowed := true }
def FnExactCriticalFactorsUptoSaid : Prop := fnExactCriticalFactorsUptoRow.holds Try.pinned (OpenSpec.upto fnExactCriticalFactorsSpec)

/-- 'laws.FnCodes', WHERE WHAT IT READS IS OF BULK AT MOST 1048576: true; the input reads as it did. -/
def fnCodesUptoRow : OpenClaim := { program := "ytoebojnhchocaaa", sum := "60f6cb2f56c9efb260658abd1dba46c70f589fbfe8e293b16e969faa4e9c59bd", func := "loop.example/g01298/laws.FnCodes", spec := "fnCodes", unfollowed := true, recurses := true, apart := false, narrowed := true }
def FnCodesUptoSaid : Prop := fnCodesUptoRow.holds Try.pinned (OpenSpec.upto fnCodesSpec)

/-- 'laws.FnSigns', WHERE WHAT IT READS IS OF BULK AT MOST 1048576: true; the input reads as it did. -/
def fnSignsUptoRow : OpenClaim := { program := "ytoebojnhchocaaa", sum := "60f6cb2f56c9efb260658abd1dba46c70f589fbfe8e293b16e969faa4e9c59bd", func := "loop.example/g01298/laws.FnSigns", spec := "fnSigns", unfollowed := true, recurses := true, apart := false, narrowed := true }
def FnSignsUptoSaid : Prop := fnSignsUptoRow.holds Try.pinned (OpenSpec.upto fnSignsSpec)

/-- 'laws.FnCriticalGroups', WHERE WHAT IT READS IS OF BULK AT MOST 1048576: true; the input reads as it did. -/
def fnCriticalGroupsUptoRow : OpenClaim := { program := "ytoebojnhchocaaa", sum := "60f6cb2f56c9efb260658abd1dba46c70f589fbfe8e293b16e969faa4e9c59bd", func := "loop.example/g01298/laws.FnCriticalGroups", spec := "fnCriticalGroups", unfollowed := true, recurses := true, apart := false, narrowed := true }
def FnCriticalGroupsUptoSaid : Prop := fnCriticalGroupsUptoRow.holds Try.pinned (OpenSpec.upto fnCriticalGroupsSpec)

/-- 'laws.FnIsomorphisms', WHERE WHAT IT READS IS OF BULK AT MOST 1048576: true; the input reads as it did. -/
def fnIsomorphismsUptoRow : OpenClaim := { program := "ytoebojnhchocaaa", sum := "60f6cb2f56c9efb260658abd1dba46c70f589fbfe8e293b16e969faa4e9c59bd", func := "loop.example/g01298/laws.FnIsomorphisms", spec := "fnIsomorphisms", unfollowed := true, recurses := true, apart := false, narrowed := true }
def FnIsomorphismsUptoSaid : Prop := fnIsomorphismsUptoRow.holds Try.pinned (OpenSpec.upto fnIsomorphismsSpec)

end Rows
end Go.Proofs.Ytoebojnhchocaaa
