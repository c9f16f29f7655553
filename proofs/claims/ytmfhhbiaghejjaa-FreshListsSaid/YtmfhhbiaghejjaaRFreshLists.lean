import Derived.Test.YtmfhhbiaghejjaaR
import Derived.Test.YtmfhhbiaghejjaaG4
import Derived.KernelRfl
namespace Go.Proofs.Ytmfhhbiaghejjaa.Own
open Go Go.Proofs.Ytmfhhbiaghejjaa.GD
set_option linter.unusedVariables false

theorem t_gatepathlaw29_FreshLists : tab 4 = some (.code c_gatepathlaw29_FreshLists) := by kernel_rfl
def gatepathlaw29_FreshLists (C : FuncId → List D → Option (List D)) (k : Nat) (n1 : Bool) (l2 : List D) (x3 : Int) (x4 : Int) (s5 : ByteArray) : Option (List D) :=
  (C 11 [(D.sl 47 n1 l2)]).bind fun r1 => (bif (((r1.getD 0 .undef).cell 0).b) then (some [(D.bool true)]) else (bif (decide ((300 : Int) < ((s5.size : Nat) : Int))) then (some [(D.bool true)]) else ((C 15 [(D.sl 47 n1 l2), (D.int .i64 x3), (D.int .i64 x4)]).bind fun r2 => ((C 16 [(D.sl 47 n1 l2), (D.int .i64 x3), (D.int .i64 x4)]).bind fun r3 => ((C 17 [(D.sl 47 n1 l2), (D.str s5)]).bind fun r4 => ((C 18 [(D.sl 47 n1 l2), (D.str s5)]).bind fun r5 => ((C 19 [(D.sl 47 n1 l2)]).bind fun r6 => ((C 20 [(D.sl 47 n1 l2)]).bind fun r7 => (bif ((((r6.getD 0 .undef).cell 0).i) == (((r7.getD 0 .undef).cell 0).i)) then ((C 21 [(D.sl 9 ((r2.getD 0 .undef).nb) ((r2.getD 0 .undef).els)), (D.sl 9 ((r3.getD 0 .undef).nb) ((r3.getD 0 .undef).els))]).bind fun r8 => (bif (((r8.getD 0 .undef).cell 0).b) then (bif ((((r2.getD 1 .undef).cell 0).i) == (((r3.getD 1 .undef).cell 0).i)) then ((C 14 [(D.sl 47 ((r4.getD 0 .undef).nb) ((r4.getD 0 .undef).els)), (D.sl 47 ((r5.getD 0 .undef).nb) ((r5.getD 0 .undef).els))]).bind fun r9 => (bif (((r9.getD 0 .undef).cell 0).b) then (some [(D.bool ((((r4.getD 1 .undef).cell 0).i) == (((r5.getD 1 .undef).cell 0).i)))]) else (some [(D.bool false)]))) else (some [(D.bool false)])) else (some [(D.bool false)]))) else (some [(D.bool false)]))))))))))
theorem e_gatepathlaw29_FreshLists (C : FuncId → List D → Option (List D)) (k : Nat) (n1 : Bool) (l2 : List D) (x3 : Int) (x4 : Int) (s5 : ByteArray) : dbody c_gatepathlaw29_FreshLists (envOf ty tab C) k [(D.sl 47 n1 l2), (D.int .i64 x3), (D.int .i64 x4), (D.str s5)] = gatepathlaw29_FreshLists C k n1 l2 x3 x4 s5 := by kernel_rfl
theorem s_gatepathlaw29_FreshLists (k : Nat) (n1 : Bool) (l2 : List D) (x3 : Int) (x4 : Int) (s5 : ByteArray) {r : List D} (h : gatepathlaw29_FreshLists (Cl ty tab) k n1 l2 x3 x4 s5 = some r) : Cl ty tab 4 [(D.sl 47 n1 l2), (D.int .i64 x3), (D.int .i64 x4), (D.str s5)] = some r := cl_body t_gatepathlaw29_FreshLists k (by rw [e_gatepathlaw29_FreshLists]; exact h)

end Go.Proofs.Ytmfhhbiaghejjaa.Own
