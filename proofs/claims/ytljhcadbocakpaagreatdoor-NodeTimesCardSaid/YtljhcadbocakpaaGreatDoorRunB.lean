/-
  NodeTimes runs to true at blocks 3 to 5. Part of the proof of the claim: for every input the law returns true.
-/
import Derived.Test.YtljhcadbocakpaaGreatDoorRoot
import Derived.KernelRfl
noncomputable section
namespace Go.X
theorem runT3 : k3 (.s (.int .i64 (.ofNat (nat_lit 3)))) emptyHp firstPid finK = doneA := by kernel_rfl
end Go.X
end

noncomputable section
namespace Go.X
theorem runT4 : k3 (.s (.int .i64 (.ofNat (nat_lit 4)))) emptyHp firstPid finK = doneA := by kernel_rfl
end Go.X
end

noncomputable section
namespace Go.X
theorem runT5 : k3 (.s (.int .i64 (.ofNat (nat_lit 5)))) emptyHp firstPid finK = doneA := by kernel_rfl
end Go.X
end

