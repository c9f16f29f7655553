/-
  No cell of these rows narrows 'for every input' (looked for: loops, veiled, ifaces, maps, wideKeys, modest, calm, conditions, laid).
  DERIVED. THE GIVEN ROWS OF THIS SEAT. 8 by the template 'for every input the law returns true; each argument reads behind the call as it read before'; 0 by the template 'total and deterministic' (their statements: YtomlgapciogbdaaTotals.lean).
  GIVEN WITH THE SEED: the statements are not yours to turn. If you find one false, say at which input.
  Laid BY PROGRAM, IN A SANDBOX (cutbox-rows.mjs): the forced cells as the released guide's own fill.sh prints them over the translation c81a9f0260adb29b… (all of the seat's roots in one cut). By AI agents, Wed Nov 11 2026. No macro, syntax, notation, axiom, sorry.
-/
import Derived.Test.YtomlgapciogbdaaChecked
import GoSem.Claim
import GoSem.ClaimJoined
import GoSem.ClaimMapViews
import Derived.JoinedTies
import Derived.KernelRfl
namespace Go.Proofs.Ytomlgapciogbdaa
/- THE CELL 'sum', in the pinned program and in every row, IS THE sha256 OF THE DUMP (.gsa) THAT YtomlgapciogbdaaProg.lean LOADS. Nothing in Lean hashes anything: it is a label: what it is worth is what the hold of that sum in a sandbox is worth. -/
noncomputable def Try.pinned : Pinned := { name := "ytomlgapciogbdaa", sum := "c81a9f0260adb29bc803b823fed744a78f682a78f71c0af7f9d36187387c4429", checked := Try.checked }
namespace Rows
def none {H : Type} : Left H := { results := [], args := [] }

/-- 'gatepathlaw15.AspaChecks': WHATEVER THE INPUT: true; the input reads as it did. -/
def aspaChecksSpec : ChangeSpec := { name := "aspaChecks", fn := fun _ => fun
  | [d1, d2] => { results := [.lit (.bool true)], args := [d1, d2] }
  | _ => none }
def aspaChecksRow : OpenClaim := { program := "ytomlgapciogbdaa", sum := "c81a9f0260adb29bc803b823fed744a78f682a78f71c0af7f9d36187387c4429", func := "gatepath/gatepathlaw15.AspaChecks", spec := "aspaChecks", apart := false }
def AspaChecksSaid : Prop := aspaChecksRow.holds Try.pinned (OpenSpec.ofChange aspaChecksSpec)

/-- ITS FALSE NEIGHBOUR: 'it returns false'. Refute it at one input. -/
def aspaChecksWrong : ChangeSpec := { name := "aspaChecks", fn := fun _ => fun
  | [d1, d2] => { results := [.lit (.bool false)], args := [d1, d2] }
  | _ => none }
def AspaChecksWrongFalsely : Prop := aspaChecksRow.holds Try.pinned (OpenSpec.ofChange aspaChecksWrong)

/-- 'gatepathlaw15.AspaCodes': WHATEVER THE INPUT: true; the input reads as it did. -/
def aspaCodesSpec : ChangeSpec := { name := "aspaCodes", fn := fun _ => fun
  | [d1, d2] => { results := [.lit (.bool true)], args := [d1, d2] }
  | _ => none }
def aspaCodesRow : OpenClaim := { program := "ytomlgapciogbdaa", sum := "c81a9f0260adb29bc803b823fed744a78f682a78f71c0af7f9d36187387c4429", func := "gatepath/gatepathlaw15.AspaCodes", spec := "aspaCodes", unfollowed := true, recurses := true, apart := false }
def AspaCodesSaid : Prop := aspaCodesRow.holds Try.pinned (OpenSpec.ofChange aspaCodesSpec)

/-- ITS FALSE NEIGHBOUR: 'it returns false'. Refute it at one input. -/
def aspaCodesWrong : ChangeSpec := { name := "aspaCodes", fn := fun _ => fun
  | [d1, d2] => { results := [.lit (.bool false)], args := [d1, d2] }
  | _ => none }
def AspaCodesWrongFalsely : Prop := aspaCodesRow.holds Try.pinned (OpenSpec.ofChange aspaCodesWrong)

/-- 'gatepathlaw15.AspaMerges': WHATEVER THE INPUT: true; the input reads as it did. -/
def aspaMergesSpec : ChangeSpec := { name := "aspaMerges", fn := fun _ => fun
  | [d1, d2, d3] => { results := [.lit (.bool true)], args := [d1, d2, d3] }
  | _ => none }
def aspaMergesRow : OpenClaim := { program := "ytomlgapciogbdaa", sum := "c81a9f0260adb29bc803b823fed744a78f682a78f71c0af7f9d36187387c4429", func := "gatepath/gatepathlaw15.AspaMerges", spec := "aspaMerges", unfollowed := true, recurses := true, apart := false }
def AspaMergesSaid : Prop := aspaMergesRow.holds Try.pinned (OpenSpec.ofChange aspaMergesSpec)

/-- ITS FALSE NEIGHBOUR: 'it returns false'. Refute it at one input. -/
def aspaMergesWrong : ChangeSpec := { name := "aspaMerges", fn := fun _ => fun
  | [d1, d2, d3] => { results := [.lit (.bool false)], args := [d1, d2, d3] }
  | _ => none }
def AspaMergesWrongFalsely : Prop := aspaMergesRow.holds Try.pinned (OpenSpec.ofChange aspaMergesWrong)

/-- 'gatepathlaw15.AspaBack': WHATEVER THE INPUT: true; the input reads as it did. -/
def aspaBackSpec : ChangeSpec := { name := "aspaBack", fn := fun _ => fun
  | [d1, d2] => { results := [.lit (.bool true)], args := [d1, d2] }
  | _ => none }
def aspaBackRow : OpenClaim := { program := "ytomlgapciogbdaa", sum := "c81a9f0260adb29bc803b823fed744a78f682a78f71c0af7f9d36187387c4429", func := "gatepath/gatepathlaw15.AspaBack", spec := "aspaBack", unfollowed := true, recurses := true, apart := false }
def AspaBackSaid : Prop := aspaBackRow.holds Try.pinned (OpenSpec.ofChange aspaBackSpec)

/-- ITS FALSE NEIGHBOUR: 'it returns false'. Refute it at one input. -/
def aspaBackWrong : ChangeSpec := { name := "aspaBack", fn := fun _ => fun
  | [d1, d2] => { results := [.lit (.bool false)], args := [d1, d2] }
  | _ => none }
def AspaBackWrongFalsely : Prop := aspaBackRow.holds Try.pinned (OpenSpec.ofChange aspaBackWrong)

/-- 'gatepathlaw15.AspaUnion': WHATEVER THE INPUT: true; the input reads as it did. -/
def aspaUnionSpec : ChangeSpec := { name := "aspaUnion", fn := fun _ => fun
  | [d1, d2, d3] => { results := [.lit (.bool true)], args := [d1, d2, d3] }
  | _ => none }
def aspaUnionRow : OpenClaim := { program := "ytomlgapciogbdaa", sum := "c81a9f0260adb29bc803b823fed744a78f682a78f71c0af7f9d36187387c4429", func := "gatepath/gatepathlaw15.AspaUnion", spec := "aspaUnion", unfollowed := true, recurses := true, apart := false }
def AspaUnionSaid : Prop := aspaUnionRow.holds Try.pinned (OpenSpec.ofChange aspaUnionSpec)

/-- ITS FALSE NEIGHBOUR: 'it returns false'. Refute it at one input. -/
def aspaUnionWrong : ChangeSpec := { name := "aspaUnion", fn := fun _ => fun
  | [d1, d2, d3] => { results := [.lit (.bool false)], args := [d1, d2, d3] }
  | _ => none }
def AspaUnionWrongFalsely : Prop := aspaUnionRow.holds Try.pinned (OpenSpec.ofChange aspaUnionWrong)

/-- 'gatepathlaw15.AspaOrders': WHATEVER THE INPUT: true; the input reads as it did. -/
def aspaOrdersSpec : ChangeSpec := { name := "aspaOrders", fn := fun _ => fun
  | [d1, d2, d3] => { results := [.lit (.bool true)], args := [d1, d2, d3] }
  | _ => none }
def aspaOrdersRow : OpenClaim := { program := "ytomlgapciogbdaa", sum := "c81a9f0260adb29bc803b823fed744a78f682a78f71c0af7f9d36187387c4429", func := "gatepath/gatepathlaw15.AspaOrders", spec := "aspaOrders", unfollowed := true, recurses := true, apart := false }
def AspaOrdersSaid : Prop := aspaOrdersRow.holds Try.pinned (OpenSpec.ofChange aspaOrdersSpec)

/-- ITS FALSE NEIGHBOUR: 'it returns false'. Refute it at one input. -/
def aspaOrdersWrong : ChangeSpec := { name := "aspaOrders", fn := fun _ => fun
  | [d1, d2, d3] => { results := [.lit (.bool false)], args := [d1, d2, d3] }
  | _ => none }
def AspaOrdersWrongFalsely : Prop := aspaOrdersRow.holds Try.pinned (OpenSpec.ofChange aspaOrdersWrong)

/-- 'gatepathlaw15.AspaGrows': WHATEVER THE INPUT: true; the input reads as it did. -/
def aspaGrowsSpec : ChangeSpec := { name := "aspaGrows", fn := fun _ => fun
  | [d1, d2, d3, d4] => { results := [.lit (.bool true)], args := [d1, d2, d3, d4] }
  | _ => none }
def aspaGrowsRow : OpenClaim := { program := "ytomlgapciogbdaa", sum := "c81a9f0260adb29bc803b823fed744a78f682a78f71c0af7f9d36187387c4429", func := "gatepath/gatepathlaw15.AspaGrows", spec := "aspaGrows", unfollowed := true, recurses := true, apart := false }
def AspaGrowsSaid : Prop := aspaGrowsRow.holds Try.pinned (OpenSpec.ofChange aspaGrowsSpec)

/-- ITS FALSE NEIGHBOUR: 'it returns false'. Refute it at one input. -/
def aspaGrowsWrong : ChangeSpec := { name := "aspaGrows", fn := fun _ => fun
  | [d1, d2, d3, d4] => { results := [.lit (.bool false)], args := [d1, d2, d3, d4] }
  | _ => none }
def AspaGrowsWrongFalsely : Prop := aspaGrowsRow.holds Try.pinned (OpenSpec.ofChange aspaGrowsWrong)

/-- 'gatepathlaw15.AspaNames': WHATEVER THE INPUT: true; the input reads as it did. -/
def aspaNamesSpec : ChangeSpec := { name := "aspaNames", fn := fun _ => fun
  | [] => { results := [.lit (.bool true)], args := [] }
  | _ => none }
def aspaNamesRow : OpenClaim := { program := "ytomlgapciogbdaa", sum := "c81a9f0260adb29bc803b823fed744a78f682a78f71c0af7f9d36187387c4429", func := "gatepath/gatepathlaw15.AspaNames", spec := "aspaNames", unfollowed := true, recurses := true, apart := false }
def AspaNamesSaid : Prop := aspaNamesRow.holds Try.pinned (OpenSpec.ofChange aspaNamesSpec)

/-- ITS FALSE NEIGHBOUR: 'it returns false'. Refute it at one input. -/
def aspaNamesWrong : ChangeSpec := { name := "aspaNames", fn := fun _ => fun
  | [] => { results := [.lit (.bool false)], args := [] }
  | _ => none }
def AspaNamesWrongFalsely : Prop := aspaNamesRow.holds Try.pinned (OpenSpec.ofChange aspaNamesWrong)

/- THE SECOND FORM. 'bulk': how many values and letters a reading holds, each counted each time it is reached (what is shared counts as often as it is met; a slice's spare places count too). A statement '..UptoSaid' is the law's where the arguments, and the package variables that the reading takes, are together of bulk at most 1048576: NARROWER than '..Said'. Prove '..Said' where nothing that the law and all that it calls make is longer than what came in: it says more and counts as full. Else prove '..UptoSaid'. A law counts once. -/
mutual
def uptoBulk {H : Type} : DataW H → Nat
  | .lit (.string bytes) => bytes.length + 1
  | .lit _ => 1
  | .nil => 1
  | .ptr d => uptoBulk d + 1
  | .slice elems spare => uptoBulkAll elems + uptoBulkAll spare + 1
  | .agg parts => uptoBulkAll parts + 1
  | .iface _ d => uptoBulk d + 1
  | .map entries => uptoBulkEntries entries + 1
  | .held _ => 1
def uptoBulkAll {H : Type} : List (DataW H) → Nat
  | [] => 0
  | d :: r => uptoBulk d + uptoBulkAll r
def uptoBulkEntries {H : Type} : List (Lit × DataW H) → Nat
  | [] => 0
  | x :: r => uptoBulkEntry x + uptoBulkEntries r
def uptoBulkEntry {H : Type} : Lit × DataW H → Nat
  | (.string bytes, d) => bytes.length + uptoBulk d + 1
  | (_, d) => uptoBulk d + 1
 end
def uptoSmall : (H : Type) → List (DataW H) → Bool := fun _ ds => decide (uptoBulkAll ds ≤ 1048576)
def OpenSpec.upto (s : _root_.Go.ChangeSpec) : _root_.Go.OpenSpec := { _root_.Go.OpenSpec.ofChange s with cond := some uptoSmall }

/-- 'gatepathlaw15.AspaChecks', WHERE WHAT IT READS IS OF BULK AT MOST 1048576: true; the input reads as it did. -/
def aspaChecksUptoRow : OpenClaim := { program := "ytomlgapciogbdaa", sum := "c81a9f0260adb29bc803b823fed744a78f682a78f71c0af7f9d36187387c4429", func := "gatepath/gatepathlaw15.AspaChecks", spec := "aspaChecks", apart := false, narrowed := true }
def AspaChecksUptoSaid : Prop := aspaChecksUptoRow.holds Try.pinned (OpenSpec.upto aspaChecksSpec)

/-- 'gatepathlaw15.AspaCodes', WHERE WHAT IT READS IS OF BULK AT MOST 1048576: true; the input reads as it did. -/
def aspaCodesUptoRow : OpenClaim := { program := "ytomlgapciogbdaa", sum := "c81a9f0260adb29bc803b823fed744a78f682a78f71c0af7f9d36187387c4429", func := "gatepath/gatepathlaw15.AspaCodes", spec := "aspaCodes", unfollowed := true, recurses := true, apart := false, narrowed := true }
def AspaCodesUptoSaid : Prop := aspaCodesUptoRow.holds Try.pinned (OpenSpec.upto aspaCodesSpec)

/-- 'gatepathlaw15.AspaMerges', WHERE WHAT IT READS IS OF BULK AT MOST 1048576: true; the input reads as it did. -/
def aspaMergesUptoRow : OpenClaim := { program := "ytomlgapciogbdaa", sum := "c81a9f0260adb29bc803b823fed744a78f682a78f71c0af7f9d36187387c4429", func := "gatepath/gatepathlaw15.AspaMerges", spec := "aspaMerges", unfollowed := true, recurses := true, apart := false, narrowed := true }
def AspaMergesUptoSaid : Prop := aspaMergesUptoRow.holds Try.pinned (OpenSpec.upto aspaMergesSpec)

/-- 'gatepathlaw15.AspaBack', WHERE WHAT IT READS IS OF BULK AT MOST 1048576: true; the input reads as it did. -/
def aspaBackUptoRow : OpenClaim := { program := "ytomlgapciogbdaa", sum := "c81a9f0260adb29bc803b823fed744a78f682a78f71c0af7f9d36187387c4429", func := "gatepath/gatepathlaw15.AspaBack", spec := "aspaBack", unfollowed := true, recurses := true, apart := false, narrowed := true }
def AspaBackUptoSaid : Prop := aspaBackUptoRow.holds Try.pinned (OpenSpec.upto aspaBackSpec)

/-- 'gatepathlaw15.AspaUnion', WHERE WHAT IT READS IS OF BULK AT MOST 1048576: true; the input reads as it did. -/
def aspaUnionUptoRow : OpenClaim := { program := "ytomlgapciogbdaa", sum := "c81a9f0260adb29bc803b823fed744a78f682a78f71c0af7f9d36187387c4429", func := "gatepath/gatepathlaw15.AspaUnion", spec := "aspaUnion", unfollowed := true, recurses := true, apart := false, narrowed := true }
def AspaUnionUptoSaid : Prop := aspaUnionUptoRow.holds Try.pinned (OpenSpec.upto aspaUnionSpec)

/-- 'gatepathlaw15.AspaOrders', WHERE WHAT IT READS IS OF BULK AT MOST 1048576: true; the input reads as it did. -/
def aspaOrdersUptoRow : OpenClaim := { program := "ytomlgapciogbdaa", sum := "c81a9f0260adb29bc803b823fed744a78f682a78f71c0af7f9d36187387c4429", func := "gatepath/gatepathlaw15.AspaOrders", spec := "aspaOrders", unfollowed := true, recurses := true, apart := false, narrowed := true }
def AspaOrdersUptoSaid : Prop := aspaOrdersUptoRow.holds Try.pinned (OpenSpec.upto aspaOrdersSpec)

/-- 'gatepathlaw15.AspaGrows', WHERE WHAT IT READS IS OF BULK AT MOST 1048576: true; the input reads as it did. -/
def aspaGrowsUptoRow : OpenClaim := { program := "ytomlgapciogbdaa", sum := "c81a9f0260adb29bc803b823fed744a78f682a78f71c0af7f9d36187387c4429", func := "gatepath/gatepathlaw15.AspaGrows", spec := "aspaGrows", unfollowed := true, recurses := true, apart := false, narrowed := true }
def AspaGrowsUptoSaid : Prop := aspaGrowsUptoRow.holds Try.pinned (OpenSpec.upto aspaGrowsSpec)

/-- 'gatepathlaw15.AspaNames', WHERE WHAT IT READS IS OF BULK AT MOST 1048576: true; the input reads as it did. -/
def aspaNamesUptoRow : OpenClaim := { program := "ytomlgapciogbdaa", sum := "c81a9f0260adb29bc803b823fed744a78f682a78f71c0af7f9d36187387c4429", func := "gatepath/gatepathlaw15.AspaNames", spec := "aspaNames", unfollowed := true, recurses := true, apart := false, narrowed := true }
def AspaNamesUptoSaid : Prop := aspaNamesUptoRow.holds Try.pinned (OpenSpec.upto aspaNamesSpec)

end Rows
end Go.Proofs.Ytomlgapciogbdaa
