import Derived.Test.YtklbnnkdkkcgoaaR
import Derived.Test.YtklbnnkdkkcgoaaG4
import Derived.KernelRfl
namespace Go.Proofs.Ytklbnnkdkkcgoaa.Own
open Go Go.Proofs.Ytklbnnkdkkcgoaa.GD
set_option linter.unusedVariables false

theorem t_gatepathlaw41_LeakTells : tab 9 = some (.code c_gatepathlaw41_LeakTells) := by kernel_rfl
def gatepathlaw41_LeakTells (C : FuncId → List D → Option (List D)) (k : Nat) (n1 : Bool) (l2 : List D) (x3 : Int) (n4 : Bool) (l5 : List D) : Option (List D) :=
  (C 11 [(D.sl 46 n1 l2)]).bind fun r1 => (bif (((r1.getD 0 .undef).cell 0).b) then (some [(D.bool true)]) else (bif (decide ((100 : Int) < ((l5.length : Nat) : Int))) then (some [(D.bool true)]) else ((C 24 [(D.sl 46 n1 l2), (D.sl 23 n4 l5)]).bind fun r2 => ((C 29 [(D.sl 46 n1 l2), (D.sl 23 n4 l5)]).bind fun r3 => ((C 25 [(D.sl 46 n1 l2), (D.sl 23 n4 l5)]).bind fun r4 => ((C 30 [(D.sl 46 n1 l2), (D.sl 23 n4 l5)]).bind fun r5 => ((C 31 [(D.sl 46 n1 l2), (D.int .u8 x3), (D.sl 23 n4 l5)]).bind fun r6 => ((C 32 [(D.sl 46 n1 l2), (D.int .u8 x3), (D.sl 23 n4 l5)]).bind fun r7 => (bif ((((r2.getD 0 .undef).cell 0).i) == (((r3.getD 0 .undef).cell 0).i)) then (bif ((((r2.getD 1 .undef).cell 0).i) == (((r3.getD 1 .undef).cell 0).i)) then (bif ((((r4.getD 0 .undef).cell 0).i) == (((r5.getD 0 .undef).cell 0).i)) then (bif ((((r4.getD 1 .undef).cell 0).i) == (((r5.getD 1 .undef).cell 0).i)) then (bif ((((r6.getD 0 .undef).cell 0).i) == (((r7.getD 0 .undef).cell 0).i)) then (some [(D.bool ((((r6.getD 1 .undef).cell 0).i) == (((r7.getD 1 .undef).cell 0).i)))]) else (some [(D.bool false)])) else (some [(D.bool false)])) else (some [(D.bool false)])) else (some [(D.bool false)])) else (some [(D.bool false)]))))))))))
theorem e_gatepathlaw41_LeakTells (C : FuncId → List D → Option (List D)) (k : Nat) (n1 : Bool) (l2 : List D) (x3 : Int) (n4 : Bool) (l5 : List D) : dbody c_gatepathlaw41_LeakTells (envOf ty tab C) k [(D.sl 46 n1 l2), (D.int .u8 x3), (D.sl 23 n4 l5)] = gatepathlaw41_LeakTells C k n1 l2 x3 n4 l5 := by kernel_rfl
theorem s_gatepathlaw41_LeakTells (k : Nat) (n1 : Bool) (l2 : List D) (x3 : Int) (n4 : Bool) (l5 : List D) {r : List D} (h : gatepathlaw41_LeakTells (Cl ty tab) k n1 l2 x3 n4 l5 = some r) : Cl ty tab 9 [(D.sl 46 n1 l2), (D.int .u8 x3), (D.sl 23 n4 l5)] = some r := cl_body t_gatepathlaw41_LeakTells k (by rw [e_gatepathlaw41_LeakTells]; exact h)

end Go.Proofs.Ytklbnnkdkkcgoaa.Own
