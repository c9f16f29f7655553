/-
  No cell of these rows narrows 'for every input' (looked for: loops, veiled, ifaces, maps, wideKeys, modest, calm, conditions, laid).
  DERIVED. THE GIVEN ROWS OF THIS SEAT. 8 by the template 'for every input the law returns true; each argument reads behind the call as it read before'; 0 by the template 'total and deterministic' (their statements: YtklbnnkdkkcgoaaTotals.lean).
  GIVEN WITH THE SEED: the statements are not yours to turn. If you find one false, say at which input.
  Laid BY PROGRAM, IN A SANDBOX (cutbox-rows.mjs): the forced cells as the released guide's own fill.sh prints them over the translation c7ac96dc7bc896ec… (all of the seat's roots in one cut). By AI agents, Wed Nov 11 2026. No macro, syntax, notation, axiom, sorry.
-/
import Derived.Test.YtklbnnkdkkcgoaaChecked
import GoSem.Claim
import GoSem.ClaimJoined
import GoSem.ClaimMapViews
import Derived.JoinedTies
import Derived.KernelRfl
namespace Go.Proofs.Ytklbnnkdkkcgoaa
/- THE CELL 'sum', in the pinned program and in every row, IS THE sha256 OF THE DUMP (.gsa) THAT YtklbnnkdkkcgoaaProg.lean LOADS. Nothing in Lean hashes anything: it is a label: what it is worth is what the hold of that sum in a sandbox is worth. -/
noncomputable def Try.pinned : Pinned := { name := "ytklbnnkdkkcgoaa", sum := "c7ac96dc7bc896ec59619b6510a11cc90c6eca7c626a7c6a035a2d35cb995f04", checked := Try.checked }
namespace Rows
def none {H : Type} : Left H := { results := [], args := [] }

/-- 'gatepathlaw41.LeakHops': WHATEVER THE INPUT: true; the input reads as it did. -/
def leakHopsSpec : ChangeSpec := { name := "leakHops", fn := fun _ => fun
  | [d1, d2, d3, d4] => { results := [.lit (.bool true)], args := [d1, d2, d3, d4] }
  | _ => none }
def leakHopsRow : OpenClaim := { program := "ytklbnnkdkkcgoaa", sum := "c7ac96dc7bc896ec59619b6510a11cc90c6eca7c626a7c6a035a2d35cb995f04", func := "gatepath/gatepathlaw41.LeakHops", spec := "leakHops", unfollowed := true, recurses := true, apart := false }
def LeakHopsSaid : Prop := leakHopsRow.holds Try.pinned (OpenSpec.ofChange leakHopsSpec)

/-- ITS FALSE NEIGHBOUR: 'it returns false'. Refute it at one input. -/
def leakHopsWrong : ChangeSpec := { name := "leakHops", fn := fun _ => fun
  | [d1, d2, d3, d4] => { results := [.lit (.bool false)], args := [d1, d2, d3, d4] }
  | _ => none }
def LeakHopsWrongFalsely : Prop := leakHopsRow.holds Try.pinned (OpenSpec.ofChange leakHopsWrong)

/-- 'gatepathlaw41.LeakRamps': WHATEVER THE INPUT: true; the input reads as it did. -/
def leakRampsSpec : ChangeSpec := { name := "leakRamps", fn := fun _ => fun
  | [d1, d2] => { results := [.lit (.bool true)], args := [d1, d2] }
  | _ => none }
def leakRampsRow : OpenClaim := { program := "ytklbnnkdkkcgoaa", sum := "c7ac96dc7bc896ec59619b6510a11cc90c6eca7c626a7c6a035a2d35cb995f04", func := "gatepath/gatepathlaw41.LeakRamps", spec := "leakRamps", unfollowed := true, recurses := true, apart := false }
def LeakRampsSaid : Prop := leakRampsRow.holds Try.pinned (OpenSpec.ofChange leakRampsSpec)

/-- ITS FALSE NEIGHBOUR: 'it returns false'. Refute it at one input. -/
def leakRampsWrong : ChangeSpec := { name := "leakRamps", fn := fun _ => fun
  | [d1, d2] => { results := [.lit (.bool false)], args := [d1, d2] }
  | _ => none }
def LeakRampsWrongFalsely : Prop := leakRampsRow.holds Try.pinned (OpenSpec.ofChange leakRampsWrong)

/-- 'gatepathlaw41.LeakGrows': WHATEVER THE INPUT: true; the input reads as it did. -/
def leakGrowsSpec : ChangeSpec := { name := "leakGrows", fn := fun _ => fun
  | [d1, d2, d3] => { results := [.lit (.bool true)], args := [d1, d2, d3] }
  | _ => none }
def leakGrowsRow : OpenClaim := { program := "ytklbnnkdkkcgoaa", sum := "c7ac96dc7bc896ec59619b6510a11cc90c6eca7c626a7c6a035a2d35cb995f04", func := "gatepath/gatepathlaw41.LeakGrows", spec := "leakGrows", unfollowed := true, recurses := true, apart := false }
def LeakGrowsSaid : Prop := leakGrowsRow.holds Try.pinned (OpenSpec.ofChange leakGrowsSpec)

/-- ITS FALSE NEIGHBOUR: 'it returns false'. Refute it at one input. -/
def leakGrowsWrong : ChangeSpec := { name := "leakGrows", fn := fun _ => fun
  | [d1, d2, d3] => { results := [.lit (.bool false)], args := [d1, d2, d3] }
  | _ => none }
def LeakGrowsWrongFalsely : Prop := leakGrowsRow.holds Try.pinned (OpenSpec.ofChange leakGrowsWrong)

/-- 'gatepathlaw41.LeakRepeats': WHATEVER THE INPUT: true; the input reads as it did. -/
def leakRepeatsSpec : ChangeSpec := { name := "leakRepeats", fn := fun _ => fun
  | [d1, d2, d3, d4] => { results := [.lit (.bool true)], args := [d1, d2, d3, d4] }
  | _ => none }
def leakRepeatsRow : OpenClaim := { program := "ytklbnnkdkkcgoaa", sum := "c7ac96dc7bc896ec59619b6510a11cc90c6eca7c626a7c6a035a2d35cb995f04", func := "gatepath/gatepathlaw41.LeakRepeats", spec := "leakRepeats", unfollowed := true, recurses := true, apart := false }
def LeakRepeatsSaid : Prop := leakRepeatsRow.holds Try.pinned (OpenSpec.ofChange leakRepeatsSpec)

/-- ITS FALSE NEIGHBOUR: 'it returns false'. Refute it at one input. -/
def leakRepeatsWrong : ChangeSpec := { name := "leakRepeats", fn := fun _ => fun
  | [d1, d2, d3, d4] => { results := [.lit (.bool false)], args := [d1, d2, d3, d4] }
  | _ => none }
def LeakRepeatsWrongFalsely : Prop := leakRepeatsRow.holds Try.pinned (OpenSpec.ofChange leakRepeatsWrong)

/-- 'gatepathlaw41.LeakBoth': WHATEVER THE INPUT: true; the input reads as it did. -/
def leakBothSpec : ChangeSpec := { name := "leakBoth", fn := fun _ => fun
  | [d1, d2] => { results := [.lit (.bool true)], args := [d1, d2] }
  | _ => none }
def leakBothRow : OpenClaim := { program := "ytklbnnkdkkcgoaa", sum := "c7ac96dc7bc896ec59619b6510a11cc90c6eca7c626a7c6a035a2d35cb995f04", func := "gatepath/gatepathlaw41.LeakBoth", spec := "leakBoth", unfollowed := true, recurses := true, apart := false }
def LeakBothSaid : Prop := leakBothRow.holds Try.pinned (OpenSpec.ofChange leakBothSpec)

/-- ITS FALSE NEIGHBOUR: 'it returns false'. Refute it at one input. -/
def leakBothWrong : ChangeSpec := { name := "leakBoth", fn := fun _ => fun
  | [d1, d2] => { results := [.lit (.bool false)], args := [d1, d2] }
  | _ => none }
def LeakBothWrongFalsely : Prop := leakBothRow.holds Try.pinned (OpenSpec.ofChange leakBothWrong)

/-- 'gatepathlaw41.LeakShapes': WHATEVER THE INPUT: true; the input reads as it did. -/
def leakShapesSpec : ChangeSpec := { name := "leakShapes", fn := fun _ => fun
  | [d1, d2] => { results := [.lit (.bool true)], args := [d1, d2] }
  | _ => none }
def leakShapesRow : OpenClaim := { program := "ytklbnnkdkkcgoaa", sum := "c7ac96dc7bc896ec59619b6510a11cc90c6eca7c626a7c6a035a2d35cb995f04", func := "gatepath/gatepathlaw41.LeakShapes", spec := "leakShapes", unfollowed := true, recurses := true, apart := false }
def LeakShapesSaid : Prop := leakShapesRow.holds Try.pinned (OpenSpec.ofChange leakShapesSpec)

/-- ITS FALSE NEIGHBOUR: 'it returns false'. Refute it at one input. -/
def leakShapesWrong : ChangeSpec := { name := "leakShapes", fn := fun _ => fun
  | [d1, d2] => { results := [.lit (.bool false)], args := [d1, d2] }
  | _ => none }
def LeakShapesWrongFalsely : Prop := leakShapesRow.holds Try.pinned (OpenSpec.ofChange leakShapesWrong)

/-- 'gatepathlaw41.LeakTells': WHATEVER THE INPUT: true; the input reads as it did. -/
def leakTellsSpec : ChangeSpec := { name := "leakTells", fn := fun _ => fun
  | [d1, d2, d3] => { results := [.lit (.bool true)], args := [d1, d2, d3] }
  | _ => none }
def leakTellsRow : OpenClaim := { program := "ytklbnnkdkkcgoaa", sum := "c7ac96dc7bc896ec59619b6510a11cc90c6eca7c626a7c6a035a2d35cb995f04", func := "gatepath/gatepathlaw41.LeakTells", spec := "leakTells", unfollowed := true, recurses := true, apart := false }
def LeakTellsSaid : Prop := leakTellsRow.holds Try.pinned (OpenSpec.ofChange leakTellsSpec)

/-- ITS FALSE NEIGHBOUR: 'it returns false'. Refute it at one input. -/
def leakTellsWrong : ChangeSpec := { name := "leakTells", fn := fun _ => fun
  | [d1, d2, d3] => { results := [.lit (.bool false)], args := [d1, d2, d3] }
  | _ => none }
def LeakTellsWrongFalsely : Prop := leakTellsRow.holds Try.pinned (OpenSpec.ofChange leakTellsWrong)

/-- 'gatepathlaw41.LeakNames': WHATEVER THE INPUT: true; the input reads as it did. -/
def leakNamesSpec : ChangeSpec := { name := "leakNames", fn := fun _ => fun
  | [] => { results := [.lit (.bool true)], args := [] }
  | _ => none }
def leakNamesRow : OpenClaim := { program := "ytklbnnkdkkcgoaa", sum := "c7ac96dc7bc896ec59619b6510a11cc90c6eca7c626a7c6a035a2d35cb995f04", func := "gatepath/gatepathlaw41.LeakNames", spec := "leakNames", unfollowed := true, recurses := true, apart := false }
def LeakNamesSaid : Prop := leakNamesRow.holds Try.pinned (OpenSpec.ofChange leakNamesSpec)

/-- ITS FALSE NEIGHBOUR: 'it returns false'. Refute it at one input. -/
def leakNamesWrong : ChangeSpec := { name := "leakNames", fn := fun _ => fun
  | [] => { results := [.lit (.bool false)], args := [] }
  | _ => none }
def LeakNamesWrongFalsely : Prop := leakNamesRow.holds Try.pinned (OpenSpec.ofChange leakNamesWrong)

/- THE SECOND FORM. 'bulk': how many values and letters a reading holds, each counted each time it is reached (what is shared counts as often as it is met; a slice's spare places count too). A statement '..UptoSaid' is the law's where the arguments, and the package variables that the reading takes, are together of bulk at most 1048576: NARROWER than '..Said'. Prove '..Said' where nothing that the law and all that it calls make is longer than what came in: it says more and counts as full. Else prove '..UptoSaid'. A law counts once. -/
mutual
def uptoBulk {H : Type} : DataW H → Nat
  | .lit (.string bytes) => bytes.length + 1
  | .lit _ => 1
  | .nil => 1
  | .ptr d => uptoBulk d + 1
  | .slice elems spare => uptoBulkAll elems + uptoBulkAll spare + 1
  | .agg parts => uptoBulkAll parts + 1
  | .iface _ d => uptoBulk d + 1
  | .map entries => uptoBulkEntries entries + 1
  | .held _ => 1
def uptoBulkAll {H : Type} : List (DataW H) → Nat
  | [] => 0
  | d :: r => uptoBulk d + uptoBulkAll r
def uptoBulkEntries {H : Type} : List (Lit × DataW H) → Nat
  | [] => 0
  | x :: r => uptoBulkEntry x + uptoBulkEntries r
def uptoBulkEntry {H : Type} : Lit × DataW H → Nat
  | (.string bytes, d) => bytes.length + uptoBulk d + 1
  | (_, d) => uptoBulk d + 1
 end
def uptoSmall : (H : Type) → List (DataW H) → Bool := fun _ ds => decide (uptoBulkAll ds ≤ 1048576)
def OpenSpec.upto (s : _root_.Go.ChangeSpec) : _root_.Go.OpenSpec := { _root_.Go.OpenSpec.ofChange s with cond := some uptoSmall }

/-- 'gatepathlaw41.LeakHops', WHERE WHAT IT READS IS OF BULK AT MOST 1048576: true; the input reads as it did. -/
def leakHopsUptoRow : OpenClaim := { program := "ytklbnnkdkkcgoaa", sum := "c7ac96dc7bc896ec59619b6510a11cc90c6eca7c626a7c6a035a2d35cb995f04", func := "gatepath/gatepathlaw41.LeakHops", spec := "leakHops", unfollowed := true, recurses := true, apart := false, narrowed := true }
def LeakHopsUptoSaid : Prop := leakHopsUptoRow.holds Try.pinned (OpenSpec.upto leakHopsSpec)

/-- 'gatepathlaw41.LeakRamps', WHERE WHAT IT READS IS OF BULK AT MOST 1048576: true; the input reads as it did. -/
def leakRampsUptoRow : OpenClaim := { program := "ytklbnnkdkkcgoaa", sum := "c7ac96dc7bc896ec59619b6510a11cc90c6eca7c626a7c6a035a2d35cb995f04", func := "gatepath/gatepathlaw41.LeakRamps", spec := "leakRamps", unfollowed := true, recurses := true, apart := false, narrowed := true }
def LeakRampsUptoSaid : Prop := leakRampsUptoRow.holds Try.pinned (OpenSpec.upto leakRampsSpec)

/-- 'gatepathlaw41.LeakGrows', WHERE WHAT IT READS IS OF BULK AT MOST 1048576: true; the input reads as it did. -/
def leakGrowsUptoRow : OpenClaim := { program := "ytklbnnkdkkcgoaa", sum := "c7ac96dc7bc896ec59619b6510a11cc90c6eca7c626a7c6a035a2d35cb995f04", func := "gatepath/gatepathlaw41.LeakGrows", spec := "leakGrows", unfollowed := true, recurses := true, apart := false, narrowed := true }
def LeakGrowsUptoSaid : Prop := leakGrowsUptoRow.holds Try.pinned (OpenSpec.upto leakGrowsSpec)

/-- 'gatepathlaw41.LeakRepeats', WHERE WHAT IT READS IS OF BULK AT MOST 1048576: true; the input reads as it did. -/
def leakRepeatsUptoRow : OpenClaim := { program := "ytklbnnkdkkcgoaa", sum := "c7ac96dc7bc896ec59619b6510a11cc90c6eca7c626a7c6a035a2d35cb995f04", func := "gatepath/gatepathlaw41.LeakRepeats", spec := "leakRepeats", unfollowed := true, recurses := true, apart := false, narrowed := true }
def LeakRepeatsUptoSaid : Prop := leakRepeatsUptoRow.holds Try.pinned (OpenSpec.upto leakRepeatsSpec)

/-- 'gatepathlaw41.LeakBoth', WHERE WHAT IT READS IS OF BULK AT MOST 1048576: true; the input reads as it did. -/
def leakBothUptoRow : OpenClaim := { program := "ytklbnnkdkkcgoaa", sum := "c7ac96dc7bc896ec59619b6510a11cc90c6eca7c626a7c6a035a2d35cb995f04", func := "gatepath/gatepathlaw41.LeakBoth", spec := "leakBoth", unfollowed := true, recurses := true, apart := false, narrowed := true }
def LeakBothUptoSaid : Prop := leakBothUptoRow.holds Try.pinned (OpenSpec.upto leakBothSpec)

/-- 'gatepathlaw41.LeakShapes', WHERE WHAT IT READS IS OF BULK AT MOST 1048576: true; the input reads as it did. -/
def leakShapesUptoRow : OpenClaim := { program := "ytklbnnkdkkcgoaa", sum := "c7ac96dc7bc896ec59619b6510a11cc90c6eca7c626a7c6a035a2d35cb995f04", func := "gatepath/gatepathlaw41.LeakShapes", spec := "leakShapes", unfollowed := true, recurses := true, apart := false, narrowed := true }
def LeakShapesUptoSaid : Prop := leakShapesUptoRow.holds Try.pinned (OpenSpec.upto leakShapesSpec)

/-- 'gatepathlaw41.LeakTells', WHERE WHAT IT READS IS OF BULK AT MOST 1048576: true; the input reads as it did. -/
def leakTellsUptoRow : OpenClaim := { program := "ytklbnnkdkkcgoaa", sum := "c7ac96dc7bc896ec59619b6510a11cc90c6eca7c626a7c6a035a2d35cb995f04", func := "gatepath/gatepathlaw41.LeakTells", spec := "leakTells", unfollowed := true, recurses := true, apart := false, narrowed := true }
def LeakTellsUptoSaid : Prop := leakTellsUptoRow.holds Try.pinned (OpenSpec.upto leakTellsSpec)

/-- 'gatepathlaw41.LeakNames', WHERE WHAT IT READS IS OF BULK AT MOST 1048576: true; the input reads as it did. -/
def leakNamesUptoRow : OpenClaim := { program := "ytklbnnkdkkcgoaa", sum := "c7ac96dc7bc896ec59619b6510a11cc90c6eca7c626a7c6a035a2d35cb995f04", func := "gatepath/gatepathlaw41.LeakNames", spec := "leakNames", unfollowed := true, recurses := true, apart := false, narrowed := true }
def LeakNamesUptoSaid : Prop := leakNamesUptoRow.holds Try.pinned (OpenSpec.upto leakNamesSpec)

end Rows
end Go.Proofs.Ytklbnnkdkkcgoaa
