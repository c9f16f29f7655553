/-
  No cell of these rows narrows 'for every input' (looked for: loops, veiled, ifaces, maps, wideKeys, modest, calm, conditions, laid).
  DERIVED. THE GIVEN ROWS OF THIS SEAT. 4 by the template 'for every input the law returns true; each argument reads behind the call as it read before'; 0 by the template 'total and deterministic' (their statements: YtekkbhmlocageaaTotals.lean).
  GIVEN WITH THE SEED: the statements are not yours to turn. If you find one false, say at which input.
  Laid BY PROGRAM, IN A SANDBOX (cutbox-rows.mjs): the forced cells as the released guide's own fill.sh prints them over the translation 03573285bf7914b6… (all of the seat's roots in one cut). By AI agents, Wed Nov 11 2026. No macro, syntax, notation, axiom, sorry.
-/
import Derived.Test.YtekkbhmlocageaaChecked
import GoSem.Claim
import GoSem.ClaimJoined
import GoSem.ClaimMapViews
import Derived.JoinedTies
import Derived.KernelRfl
namespace Go.Proofs.Ytekkbhmlocageaa
/- THE CELL 'sum', in the pinned program and in every row, IS THE sha256 OF THE DUMP (.gsa) THAT YtekkbhmlocageaaProg.lean LOADS. Nothing in Lean hashes anything: it is a label: what it is worth is what the hold of that sum in a sandbox is worth. -/
noncomputable def Try.pinned : Pinned := { name := "ytekkbhmlocageaa", sum := "03573285bf7914b65ee4d7f58ba196d82addf7a31bc02a6a2a596f124cdd2a89", checked := Try.checked }
namespace Rows
def none {H : Type} : Left H := { results := [], args := [] }

/-- 'gatepathlaw44.PolicyCompares': WHATEVER THE INPUT: true; the input reads as it did. -/
def policyComparesSpec : ChangeSpec := { name := "policyCompares", fn := fun _ => fun
  | [d1, d2, d3] => { results := [.lit (.bool true)], args := [d1, d2, d3] }
  | _ => none }
def policyComparesRow : OpenClaim := { program := "ytekkbhmlocageaa", sum := "03573285bf7914b65ee4d7f58ba196d82addf7a31bc02a6a2a596f124cdd2a89", func := "gatepath/gatepathlaw44.PolicyCompares", spec := "policyCompares", unfollowed := true, recurses := true, apart := false }
def PolicyComparesSaid : Prop := policyComparesRow.holds Try.pinned (OpenSpec.ofChange policyComparesSpec)

/-- ITS FALSE NEIGHBOUR: 'it returns false'. Refute it at one input. -/
def policyComparesWrong : ChangeSpec := { name := "policyCompares", fn := fun _ => fun
  | [d1, d2, d3] => { results := [.lit (.bool false)], args := [d1, d2, d3] }
  | _ => none }
def PolicyComparesWrongFalsely : Prop := policyComparesRow.holds Try.pinned (OpenSpec.ofChange policyComparesWrong)

/-- 'gatepathlaw44.PolicyTotal': WHATEVER THE INPUT: true; the input reads as it did. -/
def policyTotalSpec : ChangeSpec := { name := "policyTotal", fn := fun _ => fun
  | [d1, d2, d3] => { results := [.lit (.bool true)], args := [d1, d2, d3] }
  | _ => none }
def policyTotalRow : OpenClaim := { program := "ytekkbhmlocageaa", sum := "03573285bf7914b65ee4d7f58ba196d82addf7a31bc02a6a2a596f124cdd2a89", func := "gatepath/gatepathlaw44.PolicyTotal", spec := "policyTotal", unfollowed := true, recurses := true, apart := false }
def PolicyTotalSaid : Prop := policyTotalRow.holds Try.pinned (OpenSpec.ofChange policyTotalSpec)

/-- ITS FALSE NEIGHBOUR: 'it returns false'. Refute it at one input. -/
def policyTotalWrong : ChangeSpec := { name := "policyTotal", fn := fun _ => fun
  | [d1, d2, d3] => { results := [.lit (.bool false)], args := [d1, d2, d3] }
  | _ => none }
def PolicyTotalWrongFalsely : Prop := policyTotalRow.holds Try.pinned (OpenSpec.ofChange policyTotalWrong)

/-- 'gatepathlaw44.PolicyLast': WHATEVER THE INPUT: true; the input reads as it did. -/
def policyLastSpec : ChangeSpec := { name := "policyLast", fn := fun _ => fun
  | [d1, d2] => { results := [.lit (.bool true)], args := [d1, d2] }
  | _ => none }
def policyLastRow : OpenClaim := { program := "ytekkbhmlocageaa", sum := "03573285bf7914b65ee4d7f58ba196d82addf7a31bc02a6a2a596f124cdd2a89", func := "gatepath/gatepathlaw44.PolicyLast", spec := "policyLast", unfollowed := true, recurses := true, apart := false }
def PolicyLastSaid : Prop := policyLastRow.holds Try.pinned (OpenSpec.ofChange policyLastSpec)

/-- ITS FALSE NEIGHBOUR: 'it returns false'. Refute it at one input. -/
def policyLastWrong : ChangeSpec := { name := "policyLast", fn := fun _ => fun
  | [d1, d2] => { results := [.lit (.bool false)], args := [d1, d2] }
  | _ => none }
def PolicyLastWrongFalsely : Prop := policyLastRow.holds Try.pinned (OpenSpec.ofChange policyLastWrong)

/-- 'gatepathlaw44.PolicyOthers': WHATEVER THE INPUT: true; the input reads as it did. -/
def policyOthersSpec : ChangeSpec := { name := "policyOthers", fn := fun _ => fun
  | [d1, d2, d3] => { results := [.lit (.bool true)], args := [d1, d2, d3] }
  | _ => none }
def policyOthersRow : OpenClaim := { program := "ytekkbhmlocageaa", sum := "03573285bf7914b65ee4d7f58ba196d82addf7a31bc02a6a2a596f124cdd2a89", func := "gatepath/gatepathlaw44.PolicyOthers", spec := "policyOthers", unfollowed := true, recurses := true, apart := false }
def PolicyOthersSaid : Prop := policyOthersRow.holds Try.pinned (OpenSpec.ofChange policyOthersSpec)

/-- ITS FALSE NEIGHBOUR: 'it returns false'. Refute it at one input. -/
def policyOthersWrong : ChangeSpec := { name := "policyOthers", fn := fun _ => fun
  | [d1, d2, d3] => { results := [.lit (.bool false)], args := [d1, d2, d3] }
  | _ => none }
def PolicyOthersWrongFalsely : Prop := policyOthersRow.holds Try.pinned (OpenSpec.ofChange policyOthersWrong)

/- THE SECOND FORM. 'bulk': how many values and letters a reading holds, each counted each time it is reached (what is shared counts as often as it is met; a slice's spare places count too). A statement '..UptoSaid' is the law's where the arguments, and the package variables that the reading takes, are together of bulk at most 1048576: NARROWER than '..Said'. Prove '..Said' where nothing that the law and all that it calls make is longer than what came in: it says more and counts as full. Else prove '..UptoSaid'. A law counts once. -/
mutual
def uptoBulk {H : Type} : DataW H → Nat
  | .lit (.string bytes) => bytes.length + 1
  | .lit _ => 1
  | .nil => 1
  | .ptr d => uptoBulk d + 1
  | .slice elems spare => uptoBulkAll elems + uptoBulkAll spare + 1
  | .agg parts => uptoBulkAll parts + 1
  | .iface _ d => uptoBulk d + 1
  | .map entries => uptoBulkEntries entries + 1
  | .held _ => 1
def uptoBulkAll {H : Type} : List (DataW H) → Nat
  | [] => 0
  | d :: r => uptoBulk d + uptoBulkAll r
def uptoBulkEntries {H : Type} : List (Lit × DataW H) → Nat
  | [] => 0
  | x :: r => uptoBulkEntry x + uptoBulkEntries r
def uptoBulkEntry {H : Type} : Lit × DataW H → Nat
  | (.string bytes, d) => bytes.length + uptoBulk d + 1
  | (_, d) => uptoBulk d + 1
 end
def uptoSmall : (H : Type) → List (DataW H) → Bool := fun _ ds => decide (uptoBulkAll ds ≤ 1048576)
def OpenSpec.upto (s : _root_.Go.ChangeSpec) : _root_.Go.OpenSpec := { _root_.Go.OpenSpec.ofChange s with cond := some uptoSmall }

/-- 'gatepathlaw44.PolicyCompares', WHERE WHAT IT READS IS OF BULK AT MOST 1048576: true; the input reads as it did. -/
def policyComparesUptoRow : OpenClaim := { program := "ytekkbhmlocageaa", sum := "03573285bf7914b65ee4d7f58ba196d82addf7a31bc02a6a2a596f124cdd2a89", func := "gatepath/gatepathlaw44.PolicyCompares", spec := "policyCompares", unfollowed := true, recurses := true, apart := false, narrowed := true }
def PolicyComparesUptoSaid : Prop := policyComparesUptoRow.holds Try.pinned (OpenSpec.upto policyComparesSpec)

/-- 'gatepathlaw44.PolicyTotal', WHERE WHAT IT READS IS OF BULK AT MOST 1048576: true; the input reads as it did. -/
def policyTotalUptoRow : OpenClaim := { program := "ytekkbhmlocageaa", sum := "03573285bf7914b65ee4d7f58ba196d82addf7a31bc02a6a2a596f124cdd2a89", func := "gatepath/gatepathlaw44.PolicyTotal", spec := "policyTotal", unfollowed := true, recurses := true, apart := false, narrowed := true }
def PolicyTotalUptoSaid : Prop := policyTotalUptoRow.holds Try.pinned (OpenSpec.upto policyTotalSpec)

/-- 'gatepathlaw44.PolicyLast', WHERE WHAT IT READS IS OF BULK AT MOST 1048576: true; the input reads as it did. -/
def policyLastUptoRow : OpenClaim := { program := "ytekkbhmlocageaa", sum := "03573285bf7914b65ee4d7f58ba196d82addf7a31bc02a6a2a596f124cdd2a89", func := "gatepath/gatepathlaw44.PolicyLast", spec := "policyLast", unfollowed := true, recurses := true, apart := false, narrowed := true }
def PolicyLastUptoSaid : Prop := policyLastUptoRow.holds Try.pinned (OpenSpec.upto policyLastSpec)

/-- 'gatepathlaw44.PolicyOthers', WHERE WHAT IT READS IS OF BULK AT MOST 1048576: true; the input reads as it did. -/
def policyOthersUptoRow : OpenClaim := { program := "ytekkbhmlocageaa", sum := "03573285bf7914b65ee4d7f58ba196d82addf7a31bc02a6a2a596f124cdd2a89", func := "gatepath/gatepathlaw44.PolicyOthers", spec := "policyOthers", unfollowed := true, recurses := true, apart := false, narrowed := true }
def PolicyOthersUptoSaid : Prop := policyOthersUptoRow.holds Try.pinned (OpenSpec.upto policyOthersSpec)

end Rows
end Go.Proofs.Ytekkbhmlocageaa
