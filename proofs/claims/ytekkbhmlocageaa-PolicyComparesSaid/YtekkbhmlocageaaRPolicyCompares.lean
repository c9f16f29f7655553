import Derived.Test.YtekkbhmlocageaaR
import Derived.Test.YtekkbhmlocageaaG4
import Derived.KernelRfl
namespace Go.Proofs.Ytekkbhmlocageaa.Own
open Go Go.Proofs.Ytekkbhmlocageaa.GD
set_option linter.unusedVariables false

theorem t_gatepathlaw44_PolicyCompares : tab 3 = some (.code c_gatepathlaw44_PolicyCompares) := by kernel_rfl
def gatepathlaw44_PolicyCompares (C : FuncId → List D → Option (List D)) (k : Nat) (x1 : Int) (x2 : Int) (d3 : D) (d4 : D) : Option (List D) :=
  (C 7 [(D.agg (etaCells ks1 d3 0))]).bind fun r1 => (bif (((r1.getD 0 .undef).cell 0).b) then (some [(D.bool true)]) else ((C 7 [(D.agg (etaCells ks1 d4 0))]).bind fun r2 => (bif (((r2.getD 0 .undef).cell 0).b) then (some [(D.bool true)]) else ((C 8 [(D.agg [(D.int .u8 x1), (D.int .u8 x2)]), (D.agg [(D.int .u8 ((d3.cell 14).i)), (D.int .u8 ((d3.cell 15).i)), (D.int .u8 ((d3.cell 16).i))])]).bind fun r3 => ((C 9 [(D.agg [(D.int .u8 x1), (D.int .u8 x2)]), (D.agg [(D.int .u8 ((d3.cell 14).i)), (D.int .u8 ((d3.cell 15).i)), (D.int .u8 ((d3.cell 16).i))])]).bind fun r4 => ((C 10 [(D.agg (etaCells ks0 d3 0)), (D.agg (etaCells ks0 d4 0))]).bind fun r5 => ((C 11 [(D.agg (etaCells ks0 d3 0)), (D.agg (etaCells ks0 d4 0))]).bind fun r6 => (bif ((((r3.getD 0 .undef).cell 0).b) == (((r4.getD 0 .undef).cell 0).b)) then (bif ((((r3.getD 1 .undef).cell 0).i) == (((r4.getD 1 .undef).cell 0).i)) then (bif ((((r5.getD 0 .undef).cell 0).i) == (((r6.getD 0 .undef).cell 0).i)) then (some [(D.bool ((((r5.getD 1 .undef).cell 0).i) == (((r6.getD 1 .undef).cell 0).i)))]) else (some [(D.bool false)])) else (some [(D.bool false)])) else (some [(D.bool false)])))))))))
theorem e_gatepathlaw44_PolicyCompares (C : FuncId → List D → Option (List D)) (k : Nat) (x1 : Int) (x2 : Int) (d3 : D) (d4 : D) : dbody c_gatepathlaw44_PolicyCompares (envOf ty tab C) k [(D.agg [(D.int .u8 x1), (D.int .u8 x2)]), (D.agg (etaCells ks0 d3 0)), (D.agg (etaCells ks0 d4 0))] = gatepathlaw44_PolicyCompares C k x1 x2 d3 d4 := by kernel_rfl
theorem s_gatepathlaw44_PolicyCompares (k : Nat) (x1 : Int) (x2 : Int) (d3 : D) (d4 : D) {r : List D} (h : gatepathlaw44_PolicyCompares (Cl ty tab) k x1 x2 d3 d4 = some r) : Cl ty tab 3 [(D.agg [(D.int .u8 x1), (D.int .u8 x2)]), (D.agg (etaCells ks0 d3 0)), (D.agg (etaCells ks0 d4 0))] = some r := cl_body t_gatepathlaw44_PolicyCompares k (by rw [e_gatepathlaw44_PolicyCompares]; exact h)

end Go.Proofs.Ytekkbhmlocageaa.Own
