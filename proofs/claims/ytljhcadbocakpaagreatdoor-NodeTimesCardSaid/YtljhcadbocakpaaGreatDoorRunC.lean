/-
  NodeTimes runs to true at blocks 6 to 8. Part of the proof of the claim: for every input the law returns true.
-/
import Derived.Test.YtljhcadbocakpaaGreatDoorRoot
import Derived.KernelRfl
noncomputable section
namespace Go.X
theorem runT6 : k3 (.s (.int .i64 (.ofNat (nat_lit 6)))) emptyHp firstPid finK = doneA := by kernel_rfl
end Go.X
end

noncomputable section
namespace Go.X
theorem runT7 : k3 (.s (.int .i64 (.ofNat (nat_lit 7)))) emptyHp firstPid finK = doneA := by kernel_rfl
end Go.X
end

noncomputable section
namespace Go.X
theorem runT8 : k3 (.s (.int .i64 (.ofNat (nat_lit 8)))) emptyHp firstPid finK = doneA := by kernel_rfl
end Go.X
end

