import Derived.Test.YtapfhcnigmighaaR
import Derived.Test.YtapfhcnigmighaaG4
import Derived.KernelRfl
namespace Go.Proofs.Ytapfhcnigmighaa.Own
open Go Go.Proofs.Ytapfhcnigmighaa.GD
set_option linter.unusedVariables false

theorem t_gatepathlaw43_LocalChecks : tab 3 = some (.code c_gatepathlaw43_LocalChecks) := by kernel_rfl
def gatepathlaw43_LocalChecks (C : FuncId → List D → Option (List D)) (k : Nat) (d1 : D) : Option (List D) :=
  (C 4 [(D.agg (etaCells ks0 d1 0))]).bind fun r1 => (bif (((r1.getD 0 .undef).cell 0).b) then (some [(D.bool true)]) else ((C 5 [(D.agg (etaCells ks0 d1 0))]).bind fun r2 => ((C 6 [(D.agg (etaCells ks0 d1 0))]).bind fun r3 => ((C 7 [(D.agg (etaCells ks0 d1 0))]).bind fun r4 => (bif ((((r3.getD 0 .undef).cell 0).i) == (((r4.getD 0 .undef).cell 0).i)) then ((C 8 [(D.agg (etaCells ks0 d1 0)), (D.agg (etaCells ks0 (r2.getD 0 .undef) 0))]).bind fun r5 => (some [(D.bool (((r5.getD 0 .undef).cell 0).b))])) else (some [(D.bool false)]))))))
theorem e_gatepathlaw43_LocalChecks (C : FuncId → List D → Option (List D)) (k : Nat) (d1 : D) : dbody c_gatepathlaw43_LocalChecks (envOf ty tab C) k [(D.agg (etaCells ks0 d1 0))] = gatepathlaw43_LocalChecks C k d1 := by kernel_rfl
theorem s_gatepathlaw43_LocalChecks (k : Nat) (d1 : D) {r : List D} (h : gatepathlaw43_LocalChecks (Cl ty tab) k d1 = some r) : Cl ty tab 3 [(D.agg (etaCells ks0 d1 0))] = some r := cl_body t_gatepathlaw43_LocalChecks k (by rw [e_gatepathlaw43_LocalChecks]; exact h)

end Go.Proofs.Ytapfhcnigmighaa.Own
