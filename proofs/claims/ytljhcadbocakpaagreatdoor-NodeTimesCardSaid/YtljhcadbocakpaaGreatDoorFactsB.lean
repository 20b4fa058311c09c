/-
  The closed facts of the row of NodeTimes, second part. Part of the proof of the claim: for every input the law returns true.
-/
import Derived.Test.YtljhcadbocakpaaGreatDoorFacts
namespace Go.Proofs.YtljhcadbocakpaaGreatDoor
open Go
theorem c_mapsRowed : mapsRowed Tryz.prog = true := by kernel_rfl
theorem c_joined : joinedFacts Tryz.prog 3 Tryz.f3 Rows.nodeTimesSpec Rows.nodeTimesRow = true := by
  unfold joinedFacts
  rw [c_inPlace, c_unfollowed, c_recurses, c_named, c_mapsRowed, Tryz.laidOut]
  kernel_rfl
end Go.Proofs.YtljhcadbocakpaaGreatDoor

