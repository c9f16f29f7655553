import Derived.Test.YtklbnnkdkkcgoaaR
import Derived.Test.YtklbnnkdkkcgoaaG4
import Derived.KernelRfl
namespace Go.Proofs.Ytklbnnkdkkcgoaa.Own
open Go Go.Proofs.Ytklbnnkdkkcgoaa.GD
set_option linter.unusedVariables false

theorem t_gatepathlaw41_LeakBoth : tab 7 = some (.code c_gatepathlaw41_LeakBoth) := by kernel_rfl
def gatepathlaw41_LeakBoth (C : FuncId → List D → Option (List D)) (k : Nat) (n1 : Bool) (l2 : List D) (n3 : Bool) (l4 : List D) : Option (List D) :=
  (C 23 []).bind fun r1 => ((C 11 [(D.sl 46 n1 l2)]).bind fun r2 => (bif (((r2.getD 0 .undef).cell 0).b) then (some [(D.bool (((r1.getD 0 .undef).cell 0).b))]) else (bif (decide ((100 : Int) < ((l4.length : Nat) : Int))) then (some [(D.bool (((r1.getD 0 .undef).cell 0).b))]) else (bif (!(((r1.getD 0 .undef).cell 0).b)) then (some [(D.bool (((r1.getD 0 .undef).cell 0).b))]) else ((C 24 [(D.sl 46 n1 l2), (D.sl 23 n3 l4)]).bind fun r3 => ((C 25 [(D.sl 46 n1 l2), (D.sl 23 n3 l4)]).bind fun r4 => (bif ((((r3.getD 1 .undef).cell 0).i) != 0) then (bif (((r1.getD 0 .undef).cell 0).b) then (bif ((((r4.getD 1 .undef).cell 0).i) == (((r3.getD 1 .undef).cell 0).i)) then (bif ((((r3.getD 0 .undef).cell 0).i) == 0) then (some [(D.bool ((((r4.getD 0 .undef).cell 0).i) == 0))]) else (some [(D.bool false)])) else (some [(D.bool false)])) else (some [(D.bool false)])) else (bif (((r1.getD 0 .undef).cell 0).b) then (bif ((((r4.getD 1 .undef).cell 0).i) == 0) then (bif ((((r3.getD 0 .undef).cell 0).i) != 1) then (bif ((((r4.getD 0 .undef).cell 0).i) != 2) then (some [(D.bool true)]) else (some [(D.bool ((((r3.getD 0 .undef).cell 0).i) == 2))])) else (bif ((((r4.getD 0 .undef).cell 0).i) == 1) then (bif ((((r4.getD 0 .undef).cell 0).i) != 2) then (some [(D.bool true)]) else (some [(D.bool ((((r3.getD 0 .undef).cell 0).i) == 2))])) else (some [(D.bool false)]))) else (some [(D.bool false)])) else (some [(D.bool false)])))))))))
theorem e_gatepathlaw41_LeakBoth (C : FuncId → List D → Option (List D)) (k : Nat) (n1 : Bool) (l2 : List D) (n3 : Bool) (l4 : List D) : dbody c_gatepathlaw41_LeakBoth (envOf ty tab C) k [(D.sl 46 n1 l2), (D.sl 23 n3 l4)] = gatepathlaw41_LeakBoth C k n1 l2 n3 l4 := by kernel_rfl
theorem s_gatepathlaw41_LeakBoth (k : Nat) (n1 : Bool) (l2 : List D) (n3 : Bool) (l4 : List D) {r : List D} (h : gatepathlaw41_LeakBoth (Cl ty tab) k n1 l2 n3 l4 = some r) : Cl ty tab 7 [(D.sl 46 n1 l2), (D.sl 23 n3 l4)] = some r := cl_body t_gatepathlaw41_LeakBoth k (by rw [e_gatepathlaw41_LeakBoth]; exact h)

end Go.Proofs.Ytklbnnkdkkcgoaa.Own
