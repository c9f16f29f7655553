import Derived.Test.YtkfnkiejikhglaaR
import Derived.Test.YtkfnkiejikhglaaG5
import Derived.KernelRfl
set_option linter.unusedVariables false
namespace Go.Proofs.Ytkfnkiejikhglaa.Own
open Go Go.Proofs.Ytkfnkiejikhglaa.GD
open Go.IntKind (i64)
def gatepathlaw39_TrieNodes (C : CF) (k : Nat) (n1 : Bool) (l2 : L) (n3 : Bool) (l4 : L) : OO :=
 (C 26 []).bind fun r1 => ((C 9 [(D.agg [(D.sl 69 n1 l2), (D.sl 69 n3 l4)])]).bind fun r2 => (bif (gB r2 0 0) then (some [(D.bool (gB r1 0 0))]) else (bif (!(gB r1 0 0)) then (some [(D.bool (gB r1 0 0))]) else ((C 18 [(D.agg [(D.sl 69 n1 l2), (D.sl 69 n3 l4)])]).bind fun r3 => (bif ((gI r3 0 0) != 0) then ((C 14 [(D.agg [(D.sl 69 n1 l2), (D.sl 69 n3 l4)])]).bind fun r4 => (bif (gB r1 0 0) then (some [(D.bool ((gI r4 1 0) != 0))]) else (some [(D.bool false)]))) else (bif (gB r1 0 0) then ((C 27 [(D.sl 69 n1 l2), (D.int .u8 4)]).bind fun r5 => (bif (gB r5 0 0) then ((C 27 [(D.sl 69 n3 l4), (D.int .u8 6)]).bind fun r6 => (some [(D.bool (gB r6 0 0))])) else (some [(D.bool false)]))) else (some [(D.bool false)])))))))
theorem s_gatepathlaw39_TrieNodes (k : Nat) (n1 : Bool) (l2 : L) (n3 : Bool) (l4 : L) : Im (gatepathlaw39_TrieNodes (Cl ty tab) k n1 l2 n3 l4) (Cl ty tab 5 [(D.agg [(D.sl 69 n1 l2), (D.sl 69 n3 l4)])]) := cl_im (f := c_gatepathlaw39_TrieNodes) (by kernel_rfl) k (by kernel_rfl)
end Go.Proofs.Ytkfnkiejikhglaa.Own
