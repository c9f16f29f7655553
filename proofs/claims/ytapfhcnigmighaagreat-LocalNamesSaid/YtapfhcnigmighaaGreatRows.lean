/-
  No cell of these rows narrows 'for every input' (looked for: loops, veiled, ifaces, maps, wideKeys, modest, calm, conditions, laid).
  DERIVED. THE GIVEN ROWS OF THIS SEAT. 7 by the template 'for every input the law returns true; each argument reads behind the call as it read before'; 0 by the template 'total and deterministic' (their statements: YtapfhcnigmighaaGreatTotals.lean).
  GIVEN WITH THE SEED: the statements are not yours to turn. If you find one false, say at which input.
  Laid BY PROGRAM, IN A SANDBOX (cutbox-rows.mjs): the forced cells as the released guide's own fill.sh prints them over the translation 666e7c3dc31dde77… (all of the seat's roots in one cut). By AI agents, Wed Nov 11 2026. No macro, syntax, notation, axiom, sorry.
-/
import Derived.Test.YtapfhcnigmighaaGreatChecked
import GoSem.Claim
import GoSem.ClaimJoined
import GoSem.ClaimMapViews
import Derived.JoinedTies
import Derived.KernelRfl
namespace Go.Proofs.YtapfhcnigmighaaGreat
/- THE CELL 'sum', in the pinned program and in every row, IS THE sha256 OF THE DUMP (.gsa) THAT YtapfhcnigmighaaGreatProg.lean LOADS. Nothing in Lean hashes anything: it is a label: what it is worth is what the hold of that sum in a sandbox is worth. -/
noncomputable def Tryz.pinned : Pinned := { name := "ytapfhcnigmighaagreat", sum := "666e7c3dc31dde77fbd29e21a5ae6e8bb484292594de57aa5d5bdb406ef36451", checked := Tryz.checked }
namespace Rows
def none {H : Type} : Left H := { results := [], args := [] }

/-- 'gatepathlaw43.LocalJoins': WHATEVER THE INPUT: true; the input reads as it did. -/
def localJoinsSpec : ChangeSpec := { name := "localJoins", fn := fun _ => fun
  | [d] => { results := [.lit (.bool true)], args := [d] }
  | _ => none }
def localJoinsRow : OpenClaim := { program := "ytapfhcnigmighaagreat", sum := "666e7c3dc31dde77fbd29e21a5ae6e8bb484292594de57aa5d5bdb406ef36451", func := "gatepath/gatepathlaw43.LocalJoins", spec := "localJoins", inPlace := ["internal/bytealg.Compare"], unfollowed := true, recurses := true, apart := false }
def LocalJoinsSaid : Prop := localJoinsRow.holds Tryz.pinned (OpenSpec.ofChange localJoinsSpec)

/-- ITS FALSE NEIGHBOUR: 'it returns false'. Refute it at one input. -/
def localJoinsWrong : ChangeSpec := { name := "localJoins", fn := fun _ => fun
  | [d] => { results := [.lit (.bool false)], args := [d] }
  | _ => none }
def LocalJoinsWrongFalsely : Prop := localJoinsRow.holds Tryz.pinned (OpenSpec.ofChange localJoinsWrong)

/-- 'gatepathlaw43.LocalApplies': WHATEVER THE INPUT: true; the input reads as it did. -/
def localAppliesSpec : ChangeSpec := { name := "localApplies", fn := fun _ => fun
  | [d1, d2] => { results := [.lit (.bool true)], args := [d1, d2] }
  | _ => none }
def localAppliesRow : OpenClaim := { program := "ytapfhcnigmighaagreat", sum := "666e7c3dc31dde77fbd29e21a5ae6e8bb484292594de57aa5d5bdb406ef36451", func := "gatepath/gatepathlaw43.LocalApplies", spec := "localApplies", inPlace := ["internal/bytealg.Compare"], unfollowed := true, recurses := true, apart := false }
def LocalAppliesSaid : Prop := localAppliesRow.holds Tryz.pinned (OpenSpec.ofChange localAppliesSpec)

/-- ITS FALSE NEIGHBOUR: 'it returns false'. Refute it at one input. -/
def localAppliesWrong : ChangeSpec := { name := "localApplies", fn := fun _ => fun
  | [d1, d2] => { results := [.lit (.bool false)], args := [d1, d2] }
  | _ => none }
def LocalAppliesWrongFalsely : Prop := localAppliesRow.holds Tryz.pinned (OpenSpec.ofChange localAppliesWrong)

/-- 'gatepathlaw43.LocalElements': WHATEVER THE INPUT: true; the input reads as it did. -/
def localElementsSpec : ChangeSpec := { name := "localElements", fn := fun _ => fun
  | [d1, d2, d3, d4, d5] => { results := [.lit (.bool true)], args := [d1, d2, d3, d4, d5] }
  | _ => none }
def localElementsRow : OpenClaim := { program := "ytapfhcnigmighaagreat", sum := "666e7c3dc31dde77fbd29e21a5ae6e8bb484292594de57aa5d5bdb406ef36451", func := "gatepath/gatepathlaw43.LocalElements", spec := "localElements", inPlace := ["internal/bytealg.Compare"], unfollowed := true, recurses := true, apart := false }
def LocalElementsSaid : Prop := localElementsRow.holds Tryz.pinned (OpenSpec.ofChange localElementsSpec)

/-- ITS FALSE NEIGHBOUR: 'it returns false'. Refute it at one input. -/
def localElementsWrong : ChangeSpec := { name := "localElements", fn := fun _ => fun
  | [d1, d2, d3, d4, d5] => { results := [.lit (.bool false)], args := [d1, d2, d3, d4, d5] }
  | _ => none }
def LocalElementsWrongFalsely : Prop := localElementsRow.holds Tryz.pinned (OpenSpec.ofChange localElementsWrong)

/-- 'gatepathlaw43.LocalProviders': WHATEVER THE INPUT: true; the input reads as it did. -/
def localProvidersSpec : ChangeSpec := { name := "localProviders", fn := fun _ => fun
  | [d1, d2, d3, d4] => { results := [.lit (.bool true)], args := [d1, d2, d3, d4] }
  | _ => none }
def localProvidersRow : OpenClaim := { program := "ytapfhcnigmighaagreat", sum := "666e7c3dc31dde77fbd29e21a5ae6e8bb484292594de57aa5d5bdb406ef36451", func := "gatepath/gatepathlaw43.LocalProviders", spec := "localProviders", inPlace := ["internal/bytealg.Compare"], unfollowed := true, recurses := true, apart := false }
def LocalProvidersSaid : Prop := localProvidersRow.holds Tryz.pinned (OpenSpec.ofChange localProvidersSpec)

/-- ITS FALSE NEIGHBOUR: 'it returns false'. Refute it at one input. -/
def localProvidersWrong : ChangeSpec := { name := "localProviders", fn := fun _ => fun
  | [d1, d2, d3, d4] => { results := [.lit (.bool false)], args := [d1, d2, d3, d4] }
  | _ => none }
def LocalProvidersWrongFalsely : Prop := localProvidersRow.holds Tryz.pinned (OpenSpec.ofChange localProvidersWrong)

/-- 'gatepathlaw43.LocalNames': WHATEVER THE INPUT: true; the input reads as it did. -/
def localNamesSpec : ChangeSpec := { name := "localNames", fn := fun _ => fun
  | [] => { results := [.lit (.bool true)], args := [] }
  | _ => none }
def localNamesRow : OpenClaim := { program := "ytapfhcnigmighaagreat", sum := "666e7c3dc31dde77fbd29e21a5ae6e8bb484292594de57aa5d5bdb406ef36451", func := "gatepath/gatepathlaw43.LocalNames", spec := "localNames", inPlace := ["internal/bytealg.Compare"], unfollowed := true, recurses := true, apart := false }
def LocalNamesSaid : Prop := localNamesRow.holds Tryz.pinned (OpenSpec.ofChange localNamesSpec)

/-- ITS FALSE NEIGHBOUR: 'it returns false'. Refute it at one input. -/
def localNamesWrong : ChangeSpec := { name := "localNames", fn := fun _ => fun
  | [] => { results := [.lit (.bool false)], args := [] }
  | _ => none }
def LocalNamesWrongFalsely : Prop := localNamesRow.holds Tryz.pinned (OpenSpec.ofChange localNamesWrong)

/-- 'gatepathlaw43.LocalOrder': WHATEVER THE INPUT: true; the input reads as it did. -/
def localOrderSpec : ChangeSpec := { name := "localOrder", fn := fun _ => fun
  | [d1, d2, d3] => { results := [.lit (.bool true)], args := [d1, d2, d3] }
  | _ => none }
def localOrderRow : OpenClaim := { program := "ytapfhcnigmighaagreat", sum := "666e7c3dc31dde77fbd29e21a5ae6e8bb484292594de57aa5d5bdb406ef36451", func := "gatepath/gatepathlaw43.LocalOrder", spec := "localOrder", inPlace := ["internal/bytealg.Compare"], unfollowed := true, recurses := true, apart := false }
def LocalOrderSaid : Prop := localOrderRow.holds Tryz.pinned (OpenSpec.ofChange localOrderSpec)

/-- ITS FALSE NEIGHBOUR: 'it returns false'. Refute it at one input. -/
def localOrderWrong : ChangeSpec := { name := "localOrder", fn := fun _ => fun
  | [d1, d2, d3] => { results := [.lit (.bool false)], args := [d1, d2, d3] }
  | _ => none }
def LocalOrderWrongFalsely : Prop := localOrderRow.holds Tryz.pinned (OpenSpec.ofChange localOrderWrong)

/-- 'gatepathlaw43.LocalTwice': WHATEVER THE INPUT: true; the input reads as it did. -/
def localTwiceSpec : ChangeSpec := { name := "localTwice", fn := fun _ => fun
  | [d1, d2] => { results := [.lit (.bool true)], args := [d1, d2] }
  | _ => none }
def localTwiceRow : OpenClaim := { program := "ytapfhcnigmighaagreat", sum := "666e7c3dc31dde77fbd29e21a5ae6e8bb484292594de57aa5d5bdb406ef36451", func := "gatepath/gatepathlaw43.LocalTwice", spec := "localTwice", inPlace := ["internal/bytealg.Compare"], unfollowed := true, recurses := true, apart := false }
def LocalTwiceSaid : Prop := localTwiceRow.holds Tryz.pinned (OpenSpec.ofChange localTwiceSpec)

/-- ITS FALSE NEIGHBOUR: 'it returns false'. Refute it at one input. -/
def localTwiceWrong : ChangeSpec := { name := "localTwice", fn := fun _ => fun
  | [d1, d2] => { results := [.lit (.bool false)], args := [d1, d2] }
  | _ => none }
def LocalTwiceWrongFalsely : Prop := localTwiceRow.holds Tryz.pinned (OpenSpec.ofChange localTwiceWrong)

/- THE SECOND FORM. 'bulk': how many values and letters a reading holds, each counted each time it is reached (what is shared counts as often as it is met; a slice's spare places count too). A statement '..UptoSaid' is the law's where the arguments, and the package variables that the reading takes, are together of bulk at most 1048576: NARROWER than '..Said'. Prove '..Said' where nothing that the law and all that it calls make is longer than what came in: it says more and counts as full. Else prove '..UptoSaid'. A law counts once. -/
mutual
def uptoBulk {H : Type} : DataW H → Nat
  | .lit (.string bytes) => bytes.length + 1
  | .lit _ => 1
  | .nil => 1
  | .ptr d => uptoBulk d + 1
  | .slice elems spare => uptoBulkAll elems + uptoBulkAll spare + 1
  | .agg parts => uptoBulkAll parts + 1
  | .iface _ d => uptoBulk d + 1
  | .map entries => uptoBulkEntries entries + 1
  | .held _ => 1
def uptoBulkAll {H : Type} : List (DataW H) → Nat
  | [] => 0
  | d :: r => uptoBulk d + uptoBulkAll r
def uptoBulkEntries {H : Type} : List (Lit × DataW H) → Nat
  | [] => 0
  | x :: r => uptoBulkEntry x + uptoBulkEntries r
def uptoBulkEntry {H : Type} : Lit × DataW H → Nat
  | (.string bytes, d) => bytes.length + uptoBulk d + 1
  | (_, d) => uptoBulk d + 1
 end
def uptoSmall : (H : Type) → List (DataW H) → Bool := fun _ ds => decide (uptoBulkAll ds ≤ 1048576)
def OpenSpec.upto (s : _root_.Go.ChangeSpec) : _root_.Go.OpenSpec := { _root_.Go.OpenSpec.ofChange s with cond := some uptoSmall }

/-- 'gatepathlaw43.LocalJoins', WHERE WHAT IT READS IS OF BULK AT MOST 1048576: true; the input reads as it did. -/
def localJoinsUptoRow : OpenClaim := { program := "ytapfhcnigmighaagreat", sum := "666e7c3dc31dde77fbd29e21a5ae6e8bb484292594de57aa5d5bdb406ef36451", func := "gatepath/gatepathlaw43.LocalJoins", spec := "localJoins", inPlace := ["internal/bytealg.Compare"], unfollowed := true, recurses := true, apart := false, narrowed := true }
def LocalJoinsUptoSaid : Prop := localJoinsUptoRow.holds Tryz.pinned (OpenSpec.upto localJoinsSpec)

/-- 'gatepathlaw43.LocalApplies', WHERE WHAT IT READS IS OF BULK AT MOST 1048576: true; the input reads as it did. -/
def localAppliesUptoRow : OpenClaim := { program := "ytapfhcnigmighaagreat", sum := "666e7c3dc31dde77fbd29e21a5ae6e8bb484292594de57aa5d5bdb406ef36451", func := "gatepath/gatepathlaw43.LocalApplies", spec := "localApplies", inPlace := ["internal/bytealg.Compare"], unfollowed := true, recurses := true, apart := false, narrowed := true }
def LocalAppliesUptoSaid : Prop := localAppliesUptoRow.holds Tryz.pinned (OpenSpec.upto localAppliesSpec)

/-- 'gatepathlaw43.LocalElements', WHERE WHAT IT READS IS OF BULK AT MOST 1048576: true; the input reads as it did. -/
def localElementsUptoRow : OpenClaim := { program := "ytapfhcnigmighaagreat", sum := "666e7c3dc31dde77fbd29e21a5ae6e8bb484292594de57aa5d5bdb406ef36451", func := "gatepath/gatepathlaw43.LocalElements", spec := "localElements", inPlace := ["internal/bytealg.Compare"], unfollowed := true, recurses := true, apart := false, narrowed := true }
def LocalElementsUptoSaid : Prop := localElementsUptoRow.holds Tryz.pinned (OpenSpec.upto localElementsSpec)

/-- 'gatepathlaw43.LocalProviders', WHERE WHAT IT READS IS OF BULK AT MOST 1048576: true; the input reads as it did. -/
def localProvidersUptoRow : OpenClaim := { program := "ytapfhcnigmighaagreat", sum := "666e7c3dc31dde77fbd29e21a5ae6e8bb484292594de57aa5d5bdb406ef36451", func := "gatepath/gatepathlaw43.LocalProviders", spec := "localProviders", inPlace := ["internal/bytealg.Compare"], unfollowed := true, recurses := true, apart := false, narrowed := true }
def LocalProvidersUptoSaid : Prop := localProvidersUptoRow.holds Tryz.pinned (OpenSpec.upto localProvidersSpec)

/-- 'gatepathlaw43.LocalNames', WHERE WHAT IT READS IS OF BULK AT MOST 1048576: true; the input reads as it did. -/
def localNamesUptoRow : OpenClaim := { program := "ytapfhcnigmighaagreat", sum := "666e7c3dc31dde77fbd29e21a5ae6e8bb484292594de57aa5d5bdb406ef36451", func := "gatepath/gatepathlaw43.LocalNames", spec := "localNames", inPlace := ["internal/bytealg.Compare"], unfollowed := true, recurses := true, apart := false, narrowed := true }
def LocalNamesUptoSaid : Prop := localNamesUptoRow.holds Tryz.pinned (OpenSpec.upto localNamesSpec)

/-- 'gatepathlaw43.LocalOrder', WHERE WHAT IT READS IS OF BULK AT MOST 1048576: true; the input reads as it did. -/
def localOrderUptoRow : OpenClaim := { program := "ytapfhcnigmighaagreat", sum := "666e7c3dc31dde77fbd29e21a5ae6e8bb484292594de57aa5d5bdb406ef36451", func := "gatepath/gatepathlaw43.LocalOrder", spec := "localOrder", inPlace := ["internal/bytealg.Compare"], unfollowed := true, recurses := true, apart := false, narrowed := true }
def LocalOrderUptoSaid : Prop := localOrderUptoRow.holds Tryz.pinned (OpenSpec.upto localOrderSpec)

/-- 'gatepathlaw43.LocalTwice', WHERE WHAT IT READS IS OF BULK AT MOST 1048576: true; the input reads as it did. -/
def localTwiceUptoRow : OpenClaim := { program := "ytapfhcnigmighaagreat", sum := "666e7c3dc31dde77fbd29e21a5ae6e8bb484292594de57aa5d5bdb406ef36451", func := "gatepath/gatepathlaw43.LocalTwice", spec := "localTwice", inPlace := ["internal/bytealg.Compare"], unfollowed := true, recurses := true, apart := false, narrowed := true }
def LocalTwiceUptoSaid : Prop := localTwiceUptoRow.holds Tryz.pinned (OpenSpec.upto localTwiceSpec)

end Rows
end Go.Proofs.YtapfhcnigmighaaGreat
