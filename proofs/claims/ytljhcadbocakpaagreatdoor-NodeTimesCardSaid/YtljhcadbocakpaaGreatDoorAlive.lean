/-
  The function alive runs to true, with no input. Part of the proof of the claim: for every input the law returns true.
-/
import Derived.Test.YtljhcadbocakpaaGreatDoorTabC
import Derived.KernelRfl
noncomputable section
namespace Go.X
open Go.Proofs
theorem alive_runs : k4 emptyHp firstPid finK = doneA := by kernel_rfl
theorem alive_ok (C : Ctx) : InOK Tryz.prog C 4 .yes := yes_of (o4 C) alive_runs
def K1 : Known := kn 4 .yes K0
theorem k1_ok (C : Ctx) : KnownOK Tryz.prog C K1 := kn_ok (alive_ok C) (k0_ok C)
theorem k1_defer {C : Ctx} : DeferOK Tryz.prog C K1 := defer_of (kn_unlock (fun h => by cases h) k0_unlock)
end Go.X
end

