import Derived.Test.YtmfhhbiaghejjaaR
import Derived.Test.YtmfhhbiaghejjaaG4
import Derived.KernelRfl
namespace Go.Proofs.Ytmfhhbiaghejjaa.Own
open Go Go.Proofs.Ytmfhhbiaghejjaa.GD
set_option linter.unusedVariables false

theorem t_gatepathlaw29_FreshMerges : tab 3 = some (.code c_gatepathlaw29_FreshMerges) := by kernel_rfl
def gatepathlaw29_FreshMerges (C : FuncId → List D → Option (List D)) (k : Nat) (n1 : Bool) (l2 : List D) (n3 : Bool) (l4 : List D) : Option (List D) :=
  (C 11 [(D.sl 47 n1 l2)]).bind fun r1 => (bif (((r1.getD 0 .undef).cell 0).b) then (some [(D.bool true)]) else ((C 11 [(D.sl 47 n3 l4)]).bind fun r2 => (bif (((r2.getD 0 .undef).cell 0).b) then (some [(D.bool true)]) else (if (([] : List D).length + l2.length) * 80 ≤ 140737488355328 then (if (([] : List D).length + l4.length) * 80 ≤ 140737488355328 then ((C 12 [(D.sl 47 n1 l2), (D.sl 47 n3 l4)]).bind fun r3 => ((C 13 [(D.sl 47 n1 l2), (D.sl 47 n3 l4)]).bind fun r4 => ((C 14 [(D.sl 47 ((r3.getD 0 .undef).nb) ((r3.getD 0 .undef).els)), (D.sl 47 ((r4.getD 0 .undef).nb) ((r4.getD 0 .undef).els))]).bind fun r5 => (bif (((r5.getD 0 .undef).cell 0).b) then (bif ((((r3.getD 1 .undef).cell 0).i) == (((r4.getD 1 .undef).cell 0).i)) then ((C 14 [(D.sl 47 n1 l2), (D.sl 47 (l2.isEmpty && false) (([] : List D) ++ l2))]).bind fun r6 => (bif (((r6.getD 0 .undef).cell 0).b) then ((C 14 [(D.sl 47 n3 l4), (D.sl 47 (l4.isEmpty && false) (([] : List D) ++ l4))]).bind fun r7 => (some [(D.bool (((r7.getD 0 .undef).cell 0).b))])) else (some [(D.bool false)]))) else (some [(D.bool false)])) else (some [(D.bool false)]))))) else none) else none))))
theorem e_gatepathlaw29_FreshMerges (C : FuncId → List D → Option (List D)) (k : Nat) (n1 : Bool) (l2 : List D) (n3 : Bool) (l4 : List D) : dbody c_gatepathlaw29_FreshMerges (envOf ty tab C) k [(D.sl 47 n1 l2), (D.sl 47 n3 l4)] = gatepathlaw29_FreshMerges C k n1 l2 n3 l4 := by kernel_rfl
theorem s_gatepathlaw29_FreshMerges (k : Nat) (n1 : Bool) (l2 : List D) (n3 : Bool) (l4 : List D) {r : List D} (h : gatepathlaw29_FreshMerges (Cl ty tab) k n1 l2 n3 l4 = some r) : Cl ty tab 3 [(D.sl 47 n1 l2), (D.sl 47 n3 l4)] = some r := cl_body t_gatepathlaw29_FreshMerges k (by rw [e_gatepathlaw29_FreshMerges]; exact h)

end Go.Proofs.Ytmfhhbiaghejjaa.Own
