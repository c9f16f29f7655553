/-
  No cell of these rows narrows 'for every input' (looked for: loops, veiled, ifaces, maps, wideKeys, modest, calm, conditions, laid).
  DERIVED. THE GIVEN ROWS OF THIS SEAT. 8 by the template 'for every input the law returns true; each argument reads behind the call as it read before'; 0 by the template 'total and deterministic' (their statements: YtmfhhbiaghejjaaTotals.lean).
  GIVEN WITH THE SEED: the statements are not yours to turn. If you find one false, say at which input.
  Laid BY PROGRAM, IN A SANDBOX (cutbox-rows.mjs): the forced cells as the released guide's own fill.sh prints them over the translation 5b1ddf212f70df70… (all of the seat's roots in one cut). By AI agents, Wed Nov 11 2026. No macro, syntax, notation, axiom, sorry.
-/
import Derived.Test.YtmfhhbiaghejjaaChecked
import GoSem.Claim
import GoSem.ClaimJoined
import GoSem.ClaimMapViews
import Derived.JoinedTies
import Derived.KernelRfl
namespace Go.Proofs.Ytmfhhbiaghejjaa
/- THE CELL 'sum', in the pinned program and in every row, IS THE sha256 OF THE DUMP (.gsa) THAT YtmfhhbiaghejjaaProg.lean LOADS. Nothing in Lean hashes anything: it is a label: what it is worth is what the hold of that sum in a sandbox is worth. -/
noncomputable def Try.pinned : Pinned := { name := "ytmfhhbiaghejjaa", sum := "5b1ddf212f70df7049a79490a661b1e23ec10e159bc2c476e3e887fee533a6fb", checked := Try.checked }
namespace Rows
def none {H : Type} : Left H := { results := [], args := [] }

/-- 'gatepathlaw29.FreshMerges': WHATEVER THE INPUT: true; the input reads as it did. -/
def freshMergesSpec : ChangeSpec := { name := "freshMerges", fn := fun _ => fun
  | [d1, d2] => { results := [.lit (.bool true)], args := [d1, d2] }
  | _ => none }
def freshMergesRow : OpenClaim := { program := "ytmfhhbiaghejjaa", sum := "5b1ddf212f70df7049a79490a661b1e23ec10e159bc2c476e3e887fee533a6fb", func := "gatepath/gatepathlaw29.FreshMerges", spec := "freshMerges", unfollowed := true, recurses := true, apart := false }
def FreshMergesSaid : Prop := freshMergesRow.holds Try.pinned (OpenSpec.ofChange freshMergesSpec)

/-- ITS FALSE NEIGHBOUR: 'it returns false'. Refute it at one input. -/
def freshMergesWrong : ChangeSpec := { name := "freshMerges", fn := fun _ => fun
  | [d1, d2] => { results := [.lit (.bool false)], args := [d1, d2] }
  | _ => none }
def FreshMergesWrongFalsely : Prop := freshMergesRow.holds Try.pinned (OpenSpec.ofChange freshMergesWrong)

/-- 'gatepathlaw29.FreshLists': WHATEVER THE INPUT: true; the input reads as it did. -/
def freshListsSpec : ChangeSpec := { name := "freshLists", fn := fun _ => fun
  | [d1, d2, d3, d4] => { results := [.lit (.bool true)], args := [d1, d2, d3, d4] }
  | _ => none }
def freshListsRow : OpenClaim := { program := "ytmfhhbiaghejjaa", sum := "5b1ddf212f70df7049a79490a661b1e23ec10e159bc2c476e3e887fee533a6fb", func := "gatepath/gatepathlaw29.FreshLists", spec := "freshLists", unfollowed := true, recurses := true, apart := false }
def FreshListsSaid : Prop := freshListsRow.holds Try.pinned (OpenSpec.ofChange freshListsSpec)

/-- ITS FALSE NEIGHBOUR: 'it returns false'. Refute it at one input. -/
def freshListsWrong : ChangeSpec := { name := "freshLists", fn := fun _ => fun
  | [d1, d2, d3, d4] => { results := [.lit (.bool false)], args := [d1, d2, d3, d4] }
  | _ => none }
def FreshListsWrongFalsely : Prop := freshListsRow.holds Try.pinned (OpenSpec.ofChange freshListsWrong)

/-- 'gatepathlaw29.FreshLooks': WHATEVER THE INPUT: true; the input reads as it did. -/
def freshLooksSpec : ChangeSpec := { name := "freshLooks", fn := fun _ => fun
  | [d1, d2, d3] => { results := [.lit (.bool true)], args := [d1, d2, d3] }
  | _ => none }
def freshLooksRow : OpenClaim := { program := "ytmfhhbiaghejjaa", sum := "5b1ddf212f70df7049a79490a661b1e23ec10e159bc2c476e3e887fee533a6fb", func := "gatepath/gatepathlaw29.FreshLooks", spec := "freshLooks", inPlace := ["slices.overlaps[gatepath/api.FreshPoint]"], unfollowed := true, recurses := true, apart := false }
def FreshLooksSaid : Prop := freshLooksRow.holds Try.pinned (OpenSpec.ofChange freshLooksSpec)

/-- ITS FALSE NEIGHBOUR: 'it returns false'. Refute it at one input. -/
def freshLooksWrong : ChangeSpec := { name := "freshLooks", fn := fun _ => fun
  | [d1, d2, d3] => { results := [.lit (.bool false)], args := [d1, d2, d3] }
  | _ => none }
def FreshLooksWrongFalsely : Prop := freshLooksRow.holds Try.pinned (OpenSpec.ofChange freshLooksWrong)

/-- 'gatepathlaw29.FreshNever': WHATEVER THE INPUT: true; the input reads as it did. -/
def freshNeverSpec : ChangeSpec := { name := "freshNever", fn := fun _ => fun
  | [d1, d2] => { results := [.lit (.bool true)], args := [d1, d2] }
  | _ => none }
def freshNeverRow : OpenClaim := { program := "ytmfhhbiaghejjaa", sum := "5b1ddf212f70df7049a79490a661b1e23ec10e159bc2c476e3e887fee533a6fb", func := "gatepath/gatepathlaw29.FreshNever", spec := "freshNever", inPlace := ["slices.overlaps[gatepath/api.FreshPoint]"], unfollowed := true, recurses := true, apart := false }
def FreshNeverSaid : Prop := freshNeverRow.holds Try.pinned (OpenSpec.ofChange freshNeverSpec)

/-- ITS FALSE NEIGHBOUR: 'it returns false'. Refute it at one input. -/
def freshNeverWrong : ChangeSpec := { name := "freshNever", fn := fun _ => fun
  | [d1, d2] => { results := [.lit (.bool false)], args := [d1, d2] }
  | _ => none }
def FreshNeverWrongFalsely : Prop := freshNeverRow.holds Try.pinned (OpenSpec.ofChange freshNeverWrong)

/-- 'gatepathlaw29.FreshAgain': WHATEVER THE INPUT: true; the input reads as it did. -/
def freshAgainSpec : ChangeSpec := { name := "freshAgain", fn := fun _ => fun
  | [d1, d2, d3, d4] => { results := [.lit (.bool true)], args := [d1, d2, d3, d4] }
  | _ => none }
def freshAgainRow : OpenClaim := { program := "ytmfhhbiaghejjaa", sum := "5b1ddf212f70df7049a79490a661b1e23ec10e159bc2c476e3e887fee533a6fb", func := "gatepath/gatepathlaw29.FreshAgain", spec := "freshAgain", inPlace := ["slices.overlaps[gatepath/api.FreshPoint]"], unfollowed := true, recurses := true, apart := false }
def FreshAgainSaid : Prop := freshAgainRow.holds Try.pinned (OpenSpec.ofChange freshAgainSpec)

/-- ITS FALSE NEIGHBOUR: 'it returns false'. Refute it at one input. -/
def freshAgainWrong : ChangeSpec := { name := "freshAgain", fn := fun _ => fun
  | [d1, d2, d3, d4] => { results := [.lit (.bool false)], args := [d1, d2, d3, d4] }
  | _ => none }
def FreshAgainWrongFalsely : Prop := freshAgainRow.holds Try.pinned (OpenSpec.ofChange freshAgainWrong)

/-- 'gatepathlaw29.FreshLate': WHATEVER THE INPUT: true; the input reads as it did. -/
def freshLateSpec : ChangeSpec := { name := "freshLate", fn := fun _ => fun
  | [d1, d2, d3, d4] => { results := [.lit (.bool true)], args := [d1, d2, d3, d4] }
  | _ => none }
def freshLateRow : OpenClaim := { program := "ytmfhhbiaghejjaa", sum := "5b1ddf212f70df7049a79490a661b1e23ec10e159bc2c476e3e887fee533a6fb", func := "gatepath/gatepathlaw29.FreshLate", spec := "freshLate", inPlace := ["slices.overlaps[gatepath/api.FreshPoint]"], unfollowed := true, recurses := true, apart := false }
def FreshLateSaid : Prop := freshLateRow.holds Try.pinned (OpenSpec.ofChange freshLateSpec)

/-- ITS FALSE NEIGHBOUR: 'it returns false'. Refute it at one input. -/
def freshLateWrong : ChangeSpec := { name := "freshLate", fn := fun _ => fun
  | [d1, d2, d3, d4] => { results := [.lit (.bool false)], args := [d1, d2, d3, d4] }
  | _ => none }
def FreshLateWrongFalsely : Prop := freshLateRow.holds Try.pinned (OpenSpec.ofChange freshLateWrong)

/-- 'gatepathlaw29.FreshOrder': WHATEVER THE INPUT: true; the input reads as it did. -/
def freshOrderSpec : ChangeSpec := { name := "freshOrder", fn := fun _ => fun
  | [d1, d2, d3] => { results := [.lit (.bool true)], args := [d1, d2, d3] }
  | _ => none }
def freshOrderRow : OpenClaim := { program := "ytmfhhbiaghejjaa", sum := "5b1ddf212f70df7049a79490a661b1e23ec10e159bc2c476e3e887fee533a6fb", func := "gatepath/gatepathlaw29.FreshOrder", spec := "freshOrder", inPlace := ["slices.overlaps[gatepath/api.FreshPoint]"], unfollowed := true, recurses := true, apart := false }
def FreshOrderSaid : Prop := freshOrderRow.holds Try.pinned (OpenSpec.ofChange freshOrderSpec)

/-- ITS FALSE NEIGHBOUR: 'it returns false'. Refute it at one input. -/
def freshOrderWrong : ChangeSpec := { name := "freshOrder", fn := fun _ => fun
  | [d1, d2, d3] => { results := [.lit (.bool false)], args := [d1, d2, d3] }
  | _ => none }
def FreshOrderWrongFalsely : Prop := freshOrderRow.holds Try.pinned (OpenSpec.ofChange freshOrderWrong)

/-- 'gatepathlaw29.FreshNames': WHATEVER THE INPUT: true; the input reads as it did. -/
def freshNamesSpec : ChangeSpec := { name := "freshNames", fn := fun _ => fun
  | [] => { results := [.lit (.bool true)], args := [] }
  | _ => none }
def freshNamesRow : OpenClaim := { program := "ytmfhhbiaghejjaa", sum := "5b1ddf212f70df7049a79490a661b1e23ec10e159bc2c476e3e887fee533a6fb", func := "gatepath/gatepathlaw29.FreshNames", spec := "freshNames", inPlace := ["slices.overlaps[gatepath/api.FreshPoint]"], unfollowed := true, recurses := true, apart := false }
def FreshNamesSaid : Prop := freshNamesRow.holds Try.pinned (OpenSpec.ofChange freshNamesSpec)

/-- ITS FALSE NEIGHBOUR: 'it returns false'. Refute it at one input. -/
def freshNamesWrong : ChangeSpec := { name := "freshNames", fn := fun _ => fun
  | [] => { results := [.lit (.bool false)], args := [] }
  | _ => none }
def FreshNamesWrongFalsely : Prop := freshNamesRow.holds Try.pinned (OpenSpec.ofChange freshNamesWrong)

/- THE SECOND FORM. 'bulk': how many values and letters a reading holds, each counted each time it is reached (what is shared counts as often as it is met; a slice's spare places count too). A statement '..UptoSaid' is the law's where the arguments, and the package variables that the reading takes, are together of bulk at most 1048576: NARROWER than '..Said'. Prove '..Said' where nothing that the law and all that it calls make is longer than what came in: it says more and counts as full. Else prove '..UptoSaid'. A law counts once. -/
mutual
def uptoBulk {H : Type} : DataW H → Nat
  | .lit (.string bytes) => bytes.length + 1
  | .lit _ => 1
  | .nil => 1
  | .ptr d => uptoBulk d + 1
  | .slice elems spare => uptoBulkAll elems + uptoBulkAll spare + 1
  | .agg parts => uptoBulkAll parts + 1
  | .iface _ d => uptoBulk d + 1
  | .map entries => uptoBulkEntries entries + 1
  | .held _ => 1
def uptoBulkAll {H : Type} : List (DataW H) → Nat
  | [] => 0
  | d :: r => uptoBulk d + uptoBulkAll r
def uptoBulkEntries {H : Type} : List (Lit × DataW H) → Nat
  | [] => 0
  | x :: r => uptoBulkEntry x + uptoBulkEntries r
def uptoBulkEntry {H : Type} : Lit × DataW H → Nat
  | (.string bytes, d) => bytes.length + uptoBulk d + 1
  | (_, d) => uptoBulk d + 1
 end
def uptoSmall : (H : Type) → List (DataW H) → Bool := fun _ ds => decide (uptoBulkAll ds ≤ 1048576)
def OpenSpec.upto (s : _root_.Go.ChangeSpec) : _root_.Go.OpenSpec := { _root_.Go.OpenSpec.ofChange s with cond := some uptoSmall }

/-- 'gatepathlaw29.FreshMerges', WHERE WHAT IT READS IS OF BULK AT MOST 1048576: true; the input reads as it did. -/
def freshMergesUptoRow : OpenClaim := { program := "ytmfhhbiaghejjaa", sum := "5b1ddf212f70df7049a79490a661b1e23ec10e159bc2c476e3e887fee533a6fb", func := "gatepath/gatepathlaw29.FreshMerges", spec := "freshMerges", unfollowed := true, recurses := true, apart := false, narrowed := true }
def FreshMergesUptoSaid : Prop := freshMergesUptoRow.holds Try.pinned (OpenSpec.upto freshMergesSpec)

/-- 'gatepathlaw29.FreshLists', WHERE WHAT IT READS IS OF BULK AT MOST 1048576: true; the input reads as it did. -/
def freshListsUptoRow : OpenClaim := { program := "ytmfhhbiaghejjaa", sum := "5b1ddf212f70df7049a79490a661b1e23ec10e159bc2c476e3e887fee533a6fb", func := "gatepath/gatepathlaw29.FreshLists", spec := "freshLists", unfollowed := true, recurses := true, apart := false, narrowed := true }
def FreshListsUptoSaid : Prop := freshListsUptoRow.holds Try.pinned (OpenSpec.upto freshListsSpec)

/-- 'gatepathlaw29.FreshLooks', WHERE WHAT IT READS IS OF BULK AT MOST 1048576: true; the input reads as it did. -/
def freshLooksUptoRow : OpenClaim := { program := "ytmfhhbiaghejjaa", sum := "5b1ddf212f70df7049a79490a661b1e23ec10e159bc2c476e3e887fee533a6fb", func := "gatepath/gatepathlaw29.FreshLooks", spec := "freshLooks", inPlace := ["slices.overlaps[gatepath/api.FreshPoint]"], unfollowed := true, recurses := true, apart := false, narrowed := true }
def FreshLooksUptoSaid : Prop := freshLooksUptoRow.holds Try.pinned (OpenSpec.upto freshLooksSpec)

/-- 'gatepathlaw29.FreshNever', WHERE WHAT IT READS IS OF BULK AT MOST 1048576: true; the input reads as it did. -/
def freshNeverUptoRow : OpenClaim := { program := "ytmfhhbiaghejjaa", sum := "5b1ddf212f70df7049a79490a661b1e23ec10e159bc2c476e3e887fee533a6fb", func := "gatepath/gatepathlaw29.FreshNever", spec := "freshNever", inPlace := ["slices.overlaps[gatepath/api.FreshPoint]"], unfollowed := true, recurses := true, apart := false, narrowed := true }
def FreshNeverUptoSaid : Prop := freshNeverUptoRow.holds Try.pinned (OpenSpec.upto freshNeverSpec)

/-- 'gatepathlaw29.FreshAgain', WHERE WHAT IT READS IS OF BULK AT MOST 1048576: true; the input reads as it did. -/
def freshAgainUptoRow : OpenClaim := { program := "ytmfhhbiaghejjaa", sum := "5b1ddf212f70df7049a79490a661b1e23ec10e159bc2c476e3e887fee533a6fb", func := "gatepath/gatepathlaw29.FreshAgain", spec := "freshAgain", inPlace := ["slices.overlaps[gatepath/api.FreshPoint]"], unfollowed := true, recurses := true, apart := false, narrowed := true }
def FreshAgainUptoSaid : Prop := freshAgainUptoRow.holds Try.pinned (OpenSpec.upto freshAgainSpec)

/-- 'gatepathlaw29.FreshLate', WHERE WHAT IT READS IS OF BULK AT MOST 1048576: true; the input reads as it did. -/
def freshLateUptoRow : OpenClaim := { program := "ytmfhhbiaghejjaa", sum := "5b1ddf212f70df7049a79490a661b1e23ec10e159bc2c476e3e887fee533a6fb", func := "gatepath/gatepathlaw29.FreshLate", spec := "freshLate", inPlace := ["slices.overlaps[gatepath/api.FreshPoint]"], unfollowed := true, recurses := true, apart := false, narrowed := true }
def FreshLateUptoSaid : Prop := freshLateUptoRow.holds Try.pinned (OpenSpec.upto freshLateSpec)

/-- 'gatepathlaw29.FreshOrder', WHERE WHAT IT READS IS OF BULK AT MOST 1048576: true; the input reads as it did. -/
def freshOrderUptoRow : OpenClaim := { program := "ytmfhhbiaghejjaa", sum := "5b1ddf212f70df7049a79490a661b1e23ec10e159bc2c476e3e887fee533a6fb", func := "gatepath/gatepathlaw29.FreshOrder", spec := "freshOrder", inPlace := ["slices.overlaps[gatepath/api.FreshPoint]"], unfollowed := true, recurses := true, apart := false, narrowed := true }
def FreshOrderUptoSaid : Prop := freshOrderUptoRow.holds Try.pinned (OpenSpec.upto freshOrderSpec)

/-- 'gatepathlaw29.FreshNames', WHERE WHAT IT READS IS OF BULK AT MOST 1048576: true; the input reads as it did. -/
def freshNamesUptoRow : OpenClaim := { program := "ytmfhhbiaghejjaa", sum := "5b1ddf212f70df7049a79490a661b1e23ec10e159bc2c476e3e887fee533a6fb", func := "gatepath/gatepathlaw29.FreshNames", spec := "freshNames", inPlace := ["slices.overlaps[gatepath/api.FreshPoint]"], unfollowed := true, recurses := true, apart := false, narrowed := true }
def FreshNamesUptoSaid : Prop := freshNamesUptoRow.holds Try.pinned (OpenSpec.upto freshNamesSpec)

end Rows
end Go.Proofs.Ytmfhhbiaghejjaa
