/-
  NodeTimes runs to true at blocks 0 to 2. Part of the proof of the claim: for every input the law returns true.
-/
import Derived.Test.YtljhcadbocakpaaGreatDoorRoot
import Derived.KernelRfl
noncomputable section
namespace Go.X
theorem runT0 : k3 (.s (.int .i64 (.ofNat (nat_lit 0)))) emptyHp firstPid finK = doneA := by kernel_rfl
end Go.X
end

noncomputable section
namespace Go.X
theorem runT1 : k3 (.s (.int .i64 (.ofNat (nat_lit 1)))) emptyHp firstPid finK = doneA := by kernel_rfl
end Go.X
end

noncomputable section
namespace Go.X
theorem runT2 : k3 (.s (.int .i64 (.ofNat (nat_lit 2)))) emptyHp firstPid finK = doneA := by kernel_rfl
end Go.X
end

