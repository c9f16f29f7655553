import Derived.Test.YtklbnnkdkkcgoaaR
import Derived.Test.YtklbnnkdkkcgoaaG4
import Derived.KernelRfl
namespace Go.Proofs.Ytklbnnkdkkcgoaa.Own
open Go Go.Proofs.Ytklbnnkdkkcgoaa.GD
set_option linter.unusedVariables false

theorem t_gatepathlaw41_LeakRamps : tab 4 = some (.code c_gatepathlaw41_LeakRamps) := by kernel_rfl
def gatepathlaw41_LeakRamps (C : FuncId → List D → Option (List D)) (k : Nat) (n1 : Bool) (l2 : List D) (n3 : Bool) (l4 : List D) : Option (List D) :=
  (C 11 [(D.sl 46 n1 l2)]).bind fun r1 => (bif (((r1.getD 0 .undef).cell 0).b) then (some [(D.bool true)]) else (bif (decide ((100 : Int) < ((l4.length : Nat) : Int))) then (some [(D.bool true)]) else ((C 19 [(D.sl 46 n1 l2)]).bind fun r2 => ((C 20 [(D.sl 46 n1 l2), (D.sl 23 n3 l4)]).bind fun r3 => ((C 21 [(D.sl 46 n1 l2), (D.sl 23 n3 l4)]).bind fun r4 => (bif (((((r3.getD 0 .undef).cell 0).i) == (((r4.getD 0 .undef).cell 0).i)) && (((((r3.getD 0 .undef).cell 1).i) == (((r4.getD 0 .undef).cell 1).i)) && (((((r3.getD 0 .undef).cell 2).i) == (((r4.getD 0 .undef).cell 2).i)) && ((((r3.getD 0 .undef).cell 3).i) == (((r4.getD 0 .undef).cell 3).i))))) then (bif ((((r3.getD 1 .undef).cell 0).i) == (((r4.getD 1 .undef).cell 0).i)) then ((C 22 [(D.sl 46 n1 l2), (D.sl 46 ((r2.getD 0 .undef).nb) ((r2.getD 0 .undef).els))]).bind fun r5 => (some [(D.bool (((r5.getD 0 .undef).cell 0).b))])) else (some [(D.bool false)])) else (some [(D.bool false)])))))))
theorem e_gatepathlaw41_LeakRamps (C : FuncId → List D → Option (List D)) (k : Nat) (n1 : Bool) (l2 : List D) (n3 : Bool) (l4 : List D) : dbody c_gatepathlaw41_LeakRamps (envOf ty tab C) k [(D.sl 46 n1 l2), (D.sl 23 n3 l4)] = gatepathlaw41_LeakRamps C k n1 l2 n3 l4 := by kernel_rfl
theorem s_gatepathlaw41_LeakRamps (k : Nat) (n1 : Bool) (l2 : List D) (n3 : Bool) (l4 : List D) {r : List D} (h : gatepathlaw41_LeakRamps (Cl ty tab) k n1 l2 n3 l4 = some r) : Cl ty tab 4 [(D.sl 46 n1 l2), (D.sl 23 n3 l4)] = some r := cl_body t_gatepathlaw41_LeakRamps k (by rw [e_gatepathlaw41_LeakRamps]; exact h)

end Go.Proofs.Ytklbnnkdkkcgoaa.Own
