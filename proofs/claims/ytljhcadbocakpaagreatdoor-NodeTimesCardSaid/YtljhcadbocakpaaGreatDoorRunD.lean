/-
  NodeTimes runs to true at blocks 9 to 11. Part of the proof of the claim: for every input the law returns true.
-/
import Derived.Test.YtljhcadbocakpaaGreatDoorRoot
import Derived.KernelRfl
noncomputable section
namespace Go.X
theorem runT9 : k3 (.s (.int .i64 (.ofNat (nat_lit 9)))) emptyHp firstPid finK = doneA := by kernel_rfl
end Go.X
end

noncomputable section
namespace Go.X
theorem runT10 : k3 (.s (.int .i64 (.ofNat (nat_lit 10)))) emptyHp firstPid finK = doneA := by kernel_rfl
end Go.X
end

noncomputable section
namespace Go.X
theorem runT11 : k3 (.s (.int .i64 (.ofNat (nat_lit 11)))) emptyHp firstPid finK = doneA := by kernel_rfl
end Go.X
end

